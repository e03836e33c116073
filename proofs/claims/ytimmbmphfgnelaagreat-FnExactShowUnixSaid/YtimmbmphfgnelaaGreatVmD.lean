/- Trees of owned cells, states over them, and rules to walk by. No conditions. -/
import Derived.Lib.Join
import Derived.Sort.Grow
import Derived.Sort.Row
import Derived.Test.YtimmbmphfgnelaaGreatVmC
set_option linter.all false
namespace Go.Proofs.YtimmbmphfgnelaaGreat.VM
open Go Go.RowKit Go.Sort

theorem rowPut_get {w : World} {b off n : Nat} {d : Array Int} {os : Array Obj} {b' : Nat} (h : b' < w.heap.size) :
  (grow (putRow (Value.int .i64) (Sort.ahead w n) b off d) os).heap[b']? = if b = b' then (w.heap[b']?).map (onCells (putCells (Value.int .i64) off d)) else w.heap[b']? := by
 simp only [grow, putRow, mapBlock, Sort.ahead]
 rw [Array.getElem?_append_left (by simpa using h), Array.getElem?_modify]
theorem rowPut_chg {w : World} {b off n : Nat} {d : Array Int} {os : Array Obj} : Chg (rowFP b off d.size) w (grow (putRow (Value.int .i64) (Sort.ahead w n) b off d) os) := by
 refine ⟨rfl, rfl, rfl, ?_, ?_, ?_⟩
 ·simp [grow, putRow, mapBlock, Sort.ahead]
 ·intro b' cur e fr h
  rw [rowPut_get (Array.getElem?_eq_some_iff.1 h).1, h]
  by_cases hb : b = b'
  ·refine ⟨putCells (Value.int .i64) off d cur, by simp [hb, onCells], by simp [putCells], fun o ho => ?_⟩
   simp only [putCells, Array.getElem?_mapIdx]
   cases cur[o]? with
   | none => rfl
   | some x =>
    simp only [Option.map_some]
    rw [if_neg (fun hh => ho ⟨hb.symm, hh.1, hh.2⟩)]
  ·exact ⟨cur, by simp [hb], rfl, fun _ _ => rfl⟩
 ·intro b' o h ho
  rw [rowPut_get (Array.getElem?_eq_some_iff.1 h).1, h]
  by_cases hb : b = b'
  ·simp only [hb, if_true, Option.map_some]
   cases o with
   | cells c e f => exact absurd rfl (ho c e f)
   | _ => rfl
  ·simp [hb]
theorem rowPut_cell {w : World} {b off n k : Nat} {d : Array Int} {os : Array Obj} {v : Value} (hc : w.cell? ⟨b, off + k, none⟩ = some v) (hk : k < d.size) :
  (grow (putRow (Value.int .i64) (Sort.ahead w n) b off d) os).cell? ⟨b, off + k, none⟩ = some (.int .i64 d[k]!) := by
 have hlt := cell_lt hc
 simp only [World.cell?] at hc ⊢
 rw [rowPut_get hlt]
 split at hc
 ·rename_i cur e fr hb
  simp only [Option.isSome_none, Bool.false_eq_true, if_false] at hc
  simp only [if_true, hb, Option.map_some, onCells, Option.isSome_none, Bool.false_eq_true, if_false]
  simp only [putCells, Array.getElem?_mapIdx, hc, Option.map_some]
  rw [if_pos ⟨by omega, by omega⟩, show off + k - off = k by omega]
 ·cases hc
theorem row_fin {l l' : List Int} {w w' : World} {H : Nat → Value} {G : Nat → FP} (hr : Rp [.rt base .row (tr l)] (fun _ => undef) H G w) (hC : Chg (G base) w w') (hO : Own w' (tr l') (G base) (H base)) :
  ∃ x L H' G' val, RetW (.t []) [] [(base, tr l')] x L ∧ Rp L val H' G' w' ∧ VR (rts L) H' w' x (.tuple #[]) ∧
   Chg (fun a o => ∃ id m t, rts [.rt base .row (tr l)] id m t ∧ m ≠ .ro ∧ G id a o) w w' ∧
   (∀ id m t, rts L id m t → m ≠ .ro → ∀ a o, G' id a o → (∃ id m t, rts [.rt base .row (tr l)] id m t ∧ m ≠ .ro ∧ G id a o) ∨ w.heap.size ≤ a) ∧
   ∀ id m t, base ≤ id → rts L id m t → H' id = H id := by
 have hm : ∀ {t0 : T} {id : Nat} {m : M} {t : T}, rts [.rt base .row t0] id m t → id = base ∧ m = .row ∧ t = t0 := fun h => by
  cases List.mem_singleton.1 h; exact ⟨rfl, rfl, rfl⟩
 have hb : rts [.rt base .row (tr l)] base .row (tr l) := List.mem_singleton.2 rfl
 refine ⟨.t [], [.rt base .row (tr l')], H, G, fun _ => undef, ⟨fun n => n, rfl, fun _ _ => rfl, List.nodup_nil, by simp, ?_⟩, ?_, ⟨[], rfl, trivial⟩, hC.mono fun a o _ h => ⟨base, .row, tr l, hb, by simp, h⟩, ?_, fun _ _ _ _ _ => rfl⟩
 ·intro p hp
  cases List.mem_singleton.1 hp
  exact List.mem_singleton.2 rfl
 ·refine ⟨fun id m t m' t' h h' => ?_, fun id m t h _ => ?_, fun id t h => ?_, fun id t h => ?_, fun id t h => ?_, fun id m t id' m' t' h h' hne => ?_, fun t x h => ?_, fun id c x h => ?_⟩
  ·obtain ⟨_, rfl, rfl⟩ := hm h
   obtain ⟨_, rfl, rfl⟩ := hm h'
   exact ⟨rfl, rfl⟩
  ·obtain ⟨rfl, rfl, rfl⟩ := hm h; exact hO
  ·obtain ⟨_, h, _⟩ := hm h; cases h
  ·obtain ⟨_, h, _⟩ := hm h; cases h
  ·obtain ⟨_, h, _⟩ := hm h; cases h
  ·exact absurd ((hm h).1.trans (hm h').1.symm) hne
  ·cases List.mem_singleton.1 h
  ·cases List.mem_singleton.1 h
 ·intro id m t h _ a o hg
  obtain ⟨rfl, rfl, rfl⟩ := hm h
  exact .inl ⟨base, .row, tr l, hb, by simp, hg⟩
/-- a callee that turns a row of numbers in place -/
theorem con_ints {P : Program} {f : FuncId} {S : List Int → List Int} (hS : ∀ l, (S l).length = l.length)
  (hs : ∀ (blk off cap : Nat) (zs : List Int) (w : World), Holds (Value.int .i64) w blk off zs.toArray → blk < w.heap.size → zs.length < 4611686018427387904 → Calls P f #[.slice (some ⟨blk, off, none⟩) zs.length cap] w fun e w' => e = .returned (.tuple #[]) ∧ ∃ n os, w' = grow (putRow (Value.int .i64) (Sort.ahead w n) blk off (S zs).toArray) os)
  (h0 : ∀ (p : Option Addr) (cap : Nat) (w : World), Calls P f #[.slice p 0 cap] w fun e w' => e = .returned (.tuple #[]) ∧ w' = w) (l : List Int) (hlen : l.length < 4611686018427387904) :
  Con P f [.h base []] [.rt base .row (tr l)] (RetW (.t []) [] [(base, tr (S l))]) := by
 intro w vs H G hr hv
 cases vs with
 | nil => exact hv.elim
 | cons v vs =>
 cases vs with
 | cons _ _ => exact hv.2.elim
 | nil =>
 obtain ⟨⟨m, t, _, _, _, hh⟩, _⟩ := hv
 simp only [hd, Option.some.injEq] at hh
 have hO := hr.own base .row (tr l) (List.mem_singleton.2 rfl) (by simp)
 have hO0 := hO
 obtain ⟨hn, a, cap, e0, hl, hm, b, off, V, Gk, h1, h2, h3, h4, h5⟩ := hO
 have hv : v = .slice a l.length cap := by rw [← hh, e0]
 subst hv
 rcases Nat.eq_zero_or_pos l.length with hz | hp
 ·rw [hz]
  refine (h0 a cap w).mono ?_
  rintro e w' ⟨rfl, rfl⟩
  have hl0 : l = [] := List.eq_nil_of_length_eq_zero hz
  have hS0 : S l = [] := List.eq_nil_of_length_eq_zero (by rw [hS, hz])
  obtain ⟨x, L, H', G', val, r⟩ := row_fin (l' := S l) hr (Chg.refl _ _) (by rw [hS0, ← hl0]; exact hO0)
  exact ⟨_, x, L, H', G', val, rfl, r⟩
 ·have hc0 : 0 < cap := by omega
  obtain ⟨rfl, sz, hK, hoff⟩ := h1 hc0
  have hcell : ∀ k, k < l.length → w.cell? ⟨b, off + k, none⟩ = some (iv (l.getD k 0)) ∧ ∀ x y, ¬ Gk k 0 x y := fun k hk => by
   obtain ⟨g1, g2⟩ := h2 k 0 hk (by decide)
   rw [show k * En.n Int + 0 = k from Nat.mul_one k] at g1
   obtain ⟨g3, _, g4⟩ := g2
   rw [g1, g3]
   exact ⟨rfl, g4⟩
  have hfro : ∀ k, w.frozen? ⟨b, off + k, none⟩ = false := fun k => by
   obtain ⟨cur, e, g1, _⟩ := hK
   simp [World.frozen?, g1]
  refine (hs b off cap l w (fun j hj => ⟨?_, hfro j⟩) hK.lt hlen).mono ?_
  ·have hj' : j < l.length := by simpa using hj
   rw [(hcell j hj').1]
   simp [List.getD_eq_getElem?_getD, hj', iv]
  rintro e w' ⟨rfl, n, os, rfl⟩
  have hsz : (S l).toArray.size = l.length := by simp [hS]
  have hF : ∀ x y, rowFP b off (S l).toArray.size x y → G base x y := fun x y hxy => (h5 x y).2 (.inl ⟨hc0, hxy.1, hxy.2.1, by have h := hxy.2.2; rw [hsz] at h; have : cap * En.n Int = cap := Nat.mul_one cap; omega⟩)
  have hC := rowPut_chg (w := w) (b := b) (off := off) (n := n) (d := (S l).toArray) (os := os)
  suffices hfin : Own _ (tr (S l)) (G base) (H base) from (by
   obtain ⟨x, L, H', G', val, r⟩ := row_fin hr (hC.mono fun x y _ h => hF x y h) hfin
   exact ⟨_, x, L, H', G', val, rfl, r⟩)
  refine ⟨hn, some ⟨b, off, none⟩, cap, by rw [hS]; exact e0, by rw [hS]; exact hl, hm, b, off, fun k _ => iv ((S l).getD k 0), fun _ _ _ _ => False, fun _ => ⟨rfl, sz, hK.chg hC, hoff⟩, ?_, ?_, ?_, ?_⟩
  ·intro k c hk hc
   have hk' : k < l.length := by rw [← hS]; exact hk
   have hc' : c < 1 := hc
   obtain rfl : c = 0 := by omega
   refine ⟨?_, rfl, rfl, fun _ _ h => h⟩
   rw [show k * En.n Int + 0 = k from Nat.mul_one k, rowPut_cell (hcell k hk').1 (by rw [hsz]; exact hk')]
   simp [List.getD_eq_getElem?_getD, hS, hk', iv]
  ·intros; assumption
  ·intro _ _ _ _ _ _ h; exact h.elim
  ·intro x y
   rw [h5]
   constructor
   ·rintro (h | ⟨k, c, hk, hc, hg⟩)
    ·exact .inl h
    ·have hc' : c < 1 := hc
     obtain rfl : c = 0 := by omega
     exact ((hcell k hk).2 x y hg).elim
   ·rintro (h | ⟨_, _, _, _, h⟩)
    ·exact .inl h
    ·exact h.elim
end Go.Proofs.YtimmbmphfgnelaaGreat.VM
namespace Go.Proofs.YtimmbmphfgnelaaGreat.VM
open Go Go.RowKit
def allRt : List E → Bool
 | [] => true
 | .rt .. :: r => allRt r
 | _ :: _ => false
theorem allRt_mem : ∀ {L : List E}, allRt L = true → ∀ e ∈ L, ∃ id m t, e = .rt id m t
 | [], _, e, he => by cases he
 | .rt i m t :: r, h, e, he => by
  rcases List.mem_cons.1 he with rfl | he
  ·exact ⟨_, _, _, rfl⟩
  ·exact allRt_mem (L := r) h e he
theorem ids_uniq {M : List E} (hn : (idsL M).Nodup) : ∀ id m t m' t', rts M id m t → rts M id m' t' → m = m' ∧ t = t' := by
 induction M with
 | nil => intro id m t m' t' h; cases h
 | cons e r ih =>
  intro id m t m' t' h h'
  cases e with
  | sl s x =>
   rcases List.mem_cons.1 h with h | h
   ·cases h
   rcases List.mem_cons.1 h' with h' | h'
   ·cases h'
   exact ih hn id m t m' t' h h'
  | al s c x =>
   rcases List.mem_cons.1 h with h | h
   ·cases h
   rcases List.mem_cons.1 h' with h' | h'
   ·cases h'
   exact ih hn id m t m' t' h h'
  | rt i m0 t0 =>
   simp only [idsL, List.nodup_cons] at hn
   rcases List.mem_cons.1 h with k | k <;> rcases List.mem_cons.1 h' with k' | k'
   ·cases k; cases k'; exact ⟨rfl, rfl⟩
   ·cases k; exact absurd (idsL_mem.2 ⟨m', t', k'⟩) hn.1
   ·cases k'; exact absurd (idsL_mem.2 ⟨m, t, k⟩) hn.1
   ·exact ih hn.2 id m t m' t' k k'
/-- what is handed over may be seen otherwise, if it holds the same -/
theorem Con.sim {P : Program} {f : FuncId} {xs : List X} {ρ0 ρ : List E} {post : X → List E → Prop} (hs : hasS ρ0 ρ) (h : Con P f xs ρ post) (hl : allRt ρ = true) (hu : nodupB (idsL ρ) = true) (hx : X.insB (idsL ρ) xs = true) : Con P f xs ρ0 post := by
 intro w vs H G hr hv
 obtain ⟨_, a2, _⟩ := hasS_mem hs
 have hrt : ∀ id m t, rts ρ id m t → ∃ t0, rts ρ0 id m t0 ∧ t0.sim t := fun id m t hh => by
  obtain ⟨t0, e1, e2⟩ := a2 id m t hh
  exact ⟨t0, rootL_mem e1, e2⟩
 have hV : VRs (rts ρ) H w xs vs := by
  have : VR (rts ρ) H w (.g xs) (.agg vs.toArray) := VR.sim (R := rts ρ0) (ids := idsL ρ) (fun id hid m t ht => by
   obtain ⟨m', t', e⟩ := idsL_mem.1 hid
   obtain ⟨t0, e1, e2⟩ := hrt id m' t' e
   obtain ⟨rfl, rfl⟩ := hr.one _ _ _ _ _ ht e1
   exact ⟨t', e, e2⟩) (x := .g xs) (by simpa only [X.inB] using hx) ⟨vs, rfl, hv⟩
  obtain ⟨us, e, h⟩ := this
  simp only [Value.agg.injEq] at e
  have : vs = us := by simpa using congrArg Array.toList e
  rw [this]; exact h
 refine (h w vs H G ⟨ids_uniq (nodup_of hu), ?_, ?_, ?_, ?_, ?_, ?_, ?_⟩ hV).mono ?_
 ·intro id m t h1 h2
  obtain ⟨t0, e1, e2⟩ := hrt id m t h1
  exact (hr.own id m t0 e1 h2).sim e2
 ·intro id t h1
  obtain ⟨t0, e1, e2⟩ := hrt id _ t h1
  exact (hr.ro id t0 e1).sim e2
 ·intro id t h1
  obtain ⟨t0, e1, e2⟩ := hrt id _ t h1
  exact hr.rold id t0 e1
 ·intro id t h1
  obtain ⟨t0, e1, e2⟩ := hrt id _ t h1
  obtain ⟨n, f, rfl⟩ := hr.box id t0 e1
  obtain ⟨g, rfl, _⟩ := e2
  exact ⟨n, g, rfl⟩
 ·intro id m t id' m' t' h1 h2
  obtain ⟨t0, e1, _⟩ := hrt id _ t h1
  obtain ⟨t1, e2, _⟩ := hrt id' _ t' h2
  exact hr.dis id m t0 id' m' t1 e1 e2
 ·intro t x h1
  obtain ⟨_, _, _, e⟩ := allRt_mem hl _ h1
  cases e
 ·intro id c x h1
  obtain ⟨_, _, _, e⟩ := allRt_mem hl _ h1
  cases e
 ·rintro e w' ⟨v, x, L, H', G', val, rfl, k1, k2, k3, k4, k5, k6⟩
  have hin : ∀ a o, (∃ id m t, rts ρ id m t ∧ m ≠ .ro ∧ G id a o) → ∃ id m t, rts ρ0 id m t ∧ m ≠ .ro ∧ G id a o := fun a o ⟨id, m, t, h1, h2, h3⟩ => by
   obtain ⟨t0, e1, _⟩ := hrt id m t h1
   exact ⟨id, m, t0, e1, h2, h3⟩
  exact ⟨v, x, L, H', G', val, rfl, k1, k2, k3, k4.mono fun a o _ h => hin a o h, fun id m t h1 h2 a o h3 => (k5 id m t h1 h2 a o h3).imp_left (hin a o), k6⟩
theorem szd_lo {w : Nat} {left : Int} (h : -1 ≤ left) : -1 ≤ szd w left := by have := szd_cases w left; omega
theorem szd_hi {w : Nat} {left : Int} (h : left ≤ 1048576) : szd w left ≤ 1048576 := by have := szd_cases w left; omega
end Go.Proofs.YtimmbmphfgnelaaGreat.VM
namespace Go.Proofs.YtimmbmphfgnelaaGreat.VM
open Go Go.RowKit
section
variable {P : Program} {N : Nat} {L : List E} {dst : Option Tmp} {ty : TypeId} {pos : String} {af : Array Edge} {g : Option (Nat × Bool)} {d : Nat}
theorem vrs_evals {H : Nat → Value} {w : World} {a : Act} (he : ∀ y, VR (rts L) H w (evX L y) (Act.eval a y)) : ∀ xs : List Operand, VRs (rts L) H w (xs.map (evX L)) (xs.map a.eval)
 | [] => trivial
 | x :: xs => ⟨he x, vrs_evals he xs⟩
/-- a function value with what it has captured -/
theorem Qt.makeFunc {f : FuncId} {caps : Array Operand} : Qt P ⟨dst, .makeFunc (.func f) #[] caps, ty, pos, af, g⟩ L (.f f (caps.toList.map (evX L))) :=
 fun H w a he _ => ⟨.func (.func f) #[] (caps.toList.map a.eval).toArray, by
  have : (caps.toList.map a.eval).toArray = caps.map a.eval := by rw [← Array.toList_map]
  simp [execOp, Instr.makeFunc, this], _, rfl, vrs_evals he _⟩
end
theorem Con.simH {P : Program} {f : FuncId} {xs : List X} {ρ0 ρ : List E} {post : X → List E → Prop} (h : Con P f xs ρ post) (hs : hasS ρ0 ρ) (hl : allRt ρ = true) (hu : nodupB (idsL ρ) = true) (hx : X.insB (idsL ρ) xs = true) : Con P f xs ρ0 post := Con.sim hs h hl hu hx
theorem sim_one {α : Type} [En α] {u : α} {f : Nat → Nat → T} (h : ∀ c, c < En.n α → (f 0 c).sim ((En.cs u).getD c .j)) : (T.s (En.n α) 1 f).sim (tr [u]) :=
 ⟨_, rfl, fun k c hk hc => by
  obtain rfl : k = 0 := by omega
  exact h c hc⟩
end Go.Proofs.YtimmbmphfgnelaaGreat.VM
namespace Go.Proofs.YtimmbmphfgnelaaGreat.VM
open Go Go.RowKit
/-! ### what lies in a box by alias, and what lies in it outright -/
mutual
/-- what spoke of root b speaks of the node at e of root i -/
def X.sub (b i : Nat) (e : Nat × Nat × Nat) : X → X
 | .p id q n k k2 => if Nat.beq id b then .p i (e :: q) n k k2 else .p id q n k k2
 | .h id q => if Nat.beq id b then .h i (e :: q) else .h id q
 | .a id q n lo len => if Nat.beq id b then .a i (e :: q) n lo len else .a id q n lo len
 | .g xs => .g (X.subs b i e xs)
 | .t xs => .t (X.subs b i e xs)
 | .f fn xs => .f fn (X.subs b i e xs)
 | .v x => .v x
 | .j => .j
 | .c => .c
def X.subs (b i : Nat) (e : Nat × Nat × Nat) : List X → List X
 | [] => []
 | x :: xs => X.sub b i e x :: X.subs b i e xs
end
def eqE (a b : Nat × Nat × Nat) : Bool := Nat.beq a.1 b.1 && (Nat.beq a.2.1 b.2.1 && Nat.beq a.2.2 b.2.2)
theorem eqE_eq {a b : Nat × Nat × Nat} (h : eqE a b = true) : a = b := by
 obtain ⟨a1, a2, a3⟩ := a
 obtain ⟨b1, b2, b3⟩ := b
 simp only [eqE, Bool.and_eq_true] at h
 rw [Nat.eq_of_beq_eq_true h.1, Nat.eq_of_beq_eq_true h.2.1, Nat.eq_of_beq_eq_true h.2.2]
theorem eqE_refl (a : Nat × Nat × Nat) : eqE a a = true := by simp [eqE]
def unsP (i : Nat) (e : Nat × Nat × Nat) (d id : Nat) (q : Path) : Nat × Path := match q with
 | [] => (id, [])
 | a :: r => if Nat.beq id i && eqE a e then (d, r) else (id, a :: r)
mutual
/-- what spoke of the node at e of root i speaks of root d -/
def X.uns (i : Nat) (e : Nat × Nat × Nat) (d : Nat) : X → X
 | .p id q n k k2 => .p (unsP i e d id q).1 (unsP i e d id q).2 n k k2
 | .h id q => .h (unsP i e d id q).1 (unsP i e d id q).2
 | .a id q n lo len => .a (unsP i e d id q).1 (unsP i e d id q).2 n lo len
 | .g xs => .g (X.unss i e d xs)
 | .t xs => .t (X.unss i e d xs)
 | .f fn xs => .f fn (X.unss i e d xs)
 | .v x => .v x
 | .j => .j
 | .c => .c
def X.unss (i : Nat) (e : Nat × Nat × Nat) (d : Nat) : List X → List X
 | [] => []
 | x :: xs => X.uns i e d x :: X.unss i e d xs
end
section
variable {R R' : RT} {H H' : Nat → Value} {w w' : World}
mutual
theorem VR.unsOk {i d : Nat} {e : Nat × Nat × Nat} (hP : ∀ x v, X.leaf x → VR R H w x v → VR R' H' w' (x.uns i e d) v) : ∀ {x : X} {v : Value}, VR R H w x v → VR R' H' w' (x.uns i e d) v
 | .g xs, v, ⟨vs, h1, h2⟩ => ⟨vs, h1, VRs.unsOk hP h2⟩
 | .t xs, v, ⟨vs, h1, h2⟩ => ⟨vs, h1, VRs.unsOk hP h2⟩
 | .f fn xs, v, ⟨vs, h1, h2⟩ => ⟨vs, h1, VRs.unsOk hP h2⟩
 | .v x, v, h => h
 | .j, v, _ => trivial
 | .c, v, h => h
 | .p .., v, h => hP _ _ trivial h
 | .h .., v, h => hP _ _ trivial h
 | .a .., v, h => hP _ _ trivial h
theorem VRs.unsOk {i d : Nat} {e : Nat × Nat × Nat} (hP : ∀ x v, X.leaf x → VR R H w x v → VR R' H' w' (x.uns i e d) v) : ∀ {xs : List X} {vs : List Value}, VRs R H w xs vs → VRs R' H' w' (X.unss i e d xs) vs
 | [], [], _ => trivial
 | x :: xs, v :: vs, ⟨h1, h2⟩ => ⟨VR.unsOk hP h1, VRs.unsOk hP h2⟩
 | [], _ :: _, h => h.elim
 | _ :: _, [], h => h.elim
end
end
def hoistM (i c n d : Nat) : List E → List E
 | [] => []
 | .sl s x :: L => .sl s (x.uns i (n, 0, c) d) :: hoistM i c n d L
 | .rt id m t :: L => .rt id m (if Nat.beq id i then t.put [] 0 c .j else t) :: hoistM i c n d L
 | .al id c' x :: L => .al id c' (x.uns i (n, 0, c) d) :: hoistM i c n d L
def hoistL (i c n d : Nat) (tc : T) (L : List E) : List E := .rt d .row tc :: .al i c (.h d []) :: hoistM i c n d L
theorem hoistM_sl {i c n d : Nat} {s : Nat} {y : X} : ∀ {L : List E}, E.sl s y ∈ hoistM i c n d L → ∃ x, E.sl s x ∈ L ∧ y = x.uns i (n, 0, c) d
 | .sl s' x :: L, h => by
  rcases List.mem_cons.1 h with h | h
  ·cases h; exact ⟨x, List.mem_cons_self .., rfl⟩
  ·obtain ⟨x, h1, h2⟩ := hoistM_sl h; exact ⟨x, List.mem_cons_of_mem _ h1, h2⟩
 | .rt id m t :: L, h => by
  rcases List.mem_cons.1 h with h | h
  ·cases h
  ·obtain ⟨x, h1, h2⟩ := hoistM_sl h; exact ⟨x, List.mem_cons_of_mem _ h1, h2⟩
 | .al id c' x :: L, h => by
  rcases List.mem_cons.1 h with h | h
  ·cases h
  ·obtain ⟨x, h1, h2⟩ := hoistM_sl h; exact ⟨x, List.mem_cons_of_mem _ h1, h2⟩
theorem hoistM_al {i c n d : Nat} {s c1 : Nat} {y : X} : ∀ {L : List E}, E.al s c1 y ∈ hoistM i c n d L → ∃ x, E.al s c1 x ∈ L ∧ y = x.uns i (n, 0, c) d
 | .sl s' x :: L, h => by
  rcases List.mem_cons.1 h with h | h
  ·cases h
  ·obtain ⟨x, h1, h2⟩ := hoistM_al h; exact ⟨x, List.mem_cons_of_mem _ h1, h2⟩
 | .rt id m t :: L, h => by
  rcases List.mem_cons.1 h with h | h
  ·cases h
  ·obtain ⟨x, h1, h2⟩ := hoistM_al h; exact ⟨x, List.mem_cons_of_mem _ h1, h2⟩
 | .al id c' x :: L, h => by
  rcases List.mem_cons.1 h with h | h
  ·cases h; exact ⟨x, List.mem_cons_self .., rfl⟩
  ·obtain ⟨x, h1, h2⟩ := hoistM_al h; exact ⟨x, List.mem_cons_of_mem _ h1, h2⟩
theorem hoistM_rt {i c n d : Nat} {id : Nat} {m : M} {t : T} : ∀ {L : List E}, rts (hoistM i c n d L) id m t ↔ ∃ t0, rts L id m t0 ∧ t = if id = i then t0.put [] 0 c .j else t0
 | [] => by simp [rts, hoistM]
 | .sl s' x :: L => by
  have := hoistM_rt (i := i) (c := c) (n := n) (d := d) (id := id) (m := m) (t := t) (L := L)
  simpa [rts, hoistM] using this
 | .al s' c' x :: L => by
  have := hoistM_rt (i := i) (c := c) (n := n) (d := d) (id := id) (m := m) (t := t) (L := L)
  simpa [rts, hoistM] using this
 | .rt id' m' t' :: L => by
  have ih := hoistM_rt (i := i) (c := c) (n := n) (d := d) (id := id) (m := m) (t := t) (L := L)
  simp only [rts, hoistM] at ih ⊢
  have hi : (if Nat.beq id' i = true then t'.put [] 0 c .j else t') = if id' = i then t'.put [] 0 c .j else t' := by
   by_cases h : id' = i
   ·subst h; simp
   ·rw [if_neg h, if_neg fun h' => h (Nat.eq_of_beq_eq_true h')]
  rw [hi, List.mem_cons, ih, E.rt.injEq]
  constructor
  ·rintro (⟨rfl, rfl, rfl⟩ | ⟨t0, h2, h3⟩)
   ·exact ⟨t', List.mem_cons_self .., rfl⟩
   ·exact ⟨t0, List.mem_cons_of_mem _ h2, h3⟩
  ·rintro ⟨t0, h2, h3⟩
   rcases List.mem_cons.1 h2 with h2 | h2
   ·cases h2; exact .inl ⟨rfl, rfl, h3⟩
   ·exact .inr ⟨t0, h2, h3⟩
/-- ways that avoid one cell -/
theorem upd_at {n c : Nat} {f : Nat → Nat → T} {y : T} : ∀ {q : Path}, Okp (.s n 1 f) q → (∀ r, q ≠ (n, 0, c) :: r) → Okp (.s n 1 (upd f 0 c y)) q ∧ ∀ {n1 len : Nat} {f1 : Nat → Nat → T}, (T.s n 1 f).at q = .s n1 len f1 → ∃ f2, (T.s n 1 (upd f 0 c y)).at q = .s n1 len f2
  | [], _, _ => ⟨trivial, fun h => by simp only [T.at] at h ⊢; cases h; exact ⟨_, rfl⟩⟩
  | (n', k', c') :: q', ⟨hnn, hk, hc, hq⟩, hne => by
    subst hnn
    have hkc : ¬ (k' = 0 ∧ c' = c) := by
      rintro ⟨rfl, rfl⟩
      exact hne q' rfl
    have e : upd f 0 c y k' c' = f k' c' := by simp only [upd, if_neg hkc]
    refine ⟨⟨rfl, hk, hc, by rw [e]; exact hq⟩, fun h => ?_⟩
    simp only [T.at] at h ⊢
    rw [e]
    exact ⟨_, h⟩
theorem hd_cons {w : World} {h x : Value} {n k c b o : Nat} {q : Path} (h1 : adr h n k c = some ⟨b, o, none⟩) (h2 : w.cell? ⟨b, o, none⟩ = some x) : hd w h ((n, k, c) :: q) = hd w x q := by
 simp only [hd, h1, h2]
theorem Weak.hoist {N : Nat} {L : List E} (i c d : Nat) {n n1 len : Nat} {f f1 : Nat → Nat → T} (hi : rootL L i = some (.box, .s n 1 f)) (hc : c < n) (hf : f 0 c = .s n1 len f1) (hd : Nat.blt d base = true) (hn : (idsL L).contains d = false) : Weak N L (hoistL i c n d (.s n1 len f1) L) := fun cx a w hs => by
 obtain ⟨H, G, hr, hG⟩ := hs.rp
 have hi' := rootL_mem hi
 have hdn : ∀ {m t}, ¬ rts L d m t := fun {m t} h => by
  have : d ∈ idsL L := idsL_mem.2 ⟨m, t, h⟩
  simp [this] at hn
 have hdi : d ≠ i := fun e => hdn (e ▸ hi')
 have hdb : d < base := Nat.blt_eq.mp hd
 have hO := hr.own i _ _ hi' (by simp)
 obtain ⟨b0, o0, x0, Gx, g1, g2, g3, g4, g5, g6, g7, g8⟩ := hO.row (k := 0) (c := c) (by omega) hc
 obtain ⟨k1, -⟩ := g8 (w' := w) (S := fun _ _ => False) (y := .j) (x' := x0) (Gy := fun _ _ => False) (Chg.refl _ _) (fun _ _ h => h.elim) g2 ⟨g3.one, fun _ _ h => h⟩ (fun x y hg => hg.elim)
 rw [hf] at g3
 have hrt : ∀ {id m t}, rts (hoistL i c n d (.s n1 len f1) L) id m t → (id = d ∧ m = .row ∧ t = .s n1 len f1) ∨ (id = i ∧ m = .box ∧ t = .s n 1 (upd f 0 c .j)) ∨ (id ≠ i ∧ id ≠ d ∧ rts L id m t) := fun {id m t} h => by
  rcases List.mem_cons.1 h with h | h
  ·cases h; exact .inl ⟨rfl, rfl, rfl⟩
  rcases List.mem_cons.1 h with h | h
  ·cases h
  obtain ⟨t0, h2, h3⟩ := hoistM_rt.1 h
  by_cases e : id = i
  ·subst e
   obtain ⟨rfl, rfl⟩ := hr.one _ _ _ _ _ h2 hi'
   rw [if_pos rfl] at h3
   exact .inr (.inl ⟨rfl, rfl, h3⟩)
  ·rw [if_neg e] at h3
   subst h3
   exact .inr (.inr ⟨e, fun e' => hdn (e' ▸ h2), h2⟩)
 have hrd : rts (hoistL i c n d (.s n1 len f1) L) d .row (.s n1 len f1) := List.mem_cons_self ..
 have hri : rts (hoistL i c n d (.s n1 len f1) L) i .box (.s n 1 (upd f 0 c .j)) := List.mem_cons_of_mem _ (List.mem_cons_of_mem _ (hoistM_rt.2 ⟨_, hi', by rw [if_pos rfl]; rfl⟩))
 have hro : ∀ {id m t}, id ≠ i → rts L id m t → rts (hoistL i c n d (.s n1 len f1) L) id m t := fun {id m t} h1 h => List.mem_cons_of_mem _ (List.mem_cons_of_mem _ (hoistM_rt.2 ⟨t, h, by rw [if_neg h1]⟩))
 let H' : Nat → Value := updN H d x0
 have hHd : H' d = x0 := by simp [H', updN]
 have hHo : ∀ {id m t}, rts L id m t → H' id = H id := fun {id m t} h => by
  have : id ≠ d := fun e => hdn (e ▸ h)
  simp [H', updN, this]
 -- a way through the cell, or past it
 have hway : ∀ {id m t q}, rts L id m t → Okp t q → ∃ m' t', rts (hoistL i c n d (.s n1 len f1) L) (unsP i (n, 0, c) d id q).1 m' t' ∧ Okp t' (unsP i (n, 0, c) d id q).2 ∧ (∀ {n2 l2 : Nat} {f2 : Nat → Nat → T}, t.at q = .s n2 l2 f2 → ∃ f3, t'.at (unsP i (n, 0, c) d id q).2 = .s n2 l2 f3) ∧ VM.hd w (H' (unsP i (n, 0, c) d id q).1) (unsP i (n, 0, c) d id q).2 = VM.hd w (H id) q := fun {id m t q} h hq => by
  have hpast : (∀ r, id = i → q ≠ (n, 0, c) :: r) → ∃ m' t', rts (hoistL i c n d (.s n1 len f1) L) id m' t' ∧ Okp t' q ∧ (∀ {n2 l2 : Nat} {f2 : Nat → Nat → T}, t.at q = .s n2 l2 f2 → ∃ f3, t'.at q = .s n2 l2 f3) ∧ VM.hd w (H' id) q = VM.hd w (H id) q := fun hav => by
   rw [hHo h]
   by_cases e : id = i
   ·subst e
    obtain ⟨rfl, rfl⟩ := hr.one _ _ _ _ _ h hi'
    obtain ⟨p1, p2⟩ := upd_at (y := .j) hq fun r => hav r rfl
    exact ⟨_, _, hri, p1, fun hh => p2 hh, rfl⟩
   ·exact ⟨m, t, hro e h, hq, fun hh => ⟨_, hh⟩, rfl⟩
  cases q with
  | nil => exact hpast fun r _ e => by cases e
  | cons e q =>
   simp only [unsP]
   by_cases hh : (Nat.beq id i && eqE e (n, 0, c)) = true
   ·rw [if_pos hh]
    simp only [Bool.and_eq_true] at hh
    have e1 := Nat.eq_of_beq_eq_true hh.1
    have e2 := eqE_eq hh.2
    subst e1 e2
    obtain ⟨rfl, rfl⟩ := hr.one _ _ _ _ _ h hi'
    obtain ⟨_, _, _, hq'⟩ := hq
    rw [hf] at hq'
    refine ⟨_, _, hrd, hq', fun hh => ⟨_, by simpa only [T.at, hf] using hh⟩, ?_⟩
    rw [hHd, hd_cons g1 g2]
   ·rw [if_neg hh]
    refine hpast fun r h1 h2 => hh ?_
    cases h2
    rw [h1]
    simp [eqE_refl]
 have hleaf : ∀ x v, X.leaf x → VR (rts L) H w x v → VR (rts (hoistL i c n d (.s n1 len f1) L)) H' w (x.uns i (n, 0, c) d) v := fun x v hl h => by
  cases x with
  | p id q n2 k c1 =>
   obtain ⟨m, t, h1, h2, ⟨l2, f2, h3, h4, h5⟩, hv, A1, h6, h7⟩ := h
   obtain ⟨m', t', p1, p2, p3, p4⟩ := hway h1 h2
   obtain ⟨f3, p5⟩ := p3 h3
   exact ⟨m', t', p1, p2, ⟨l2, f3, p5, h4, h5⟩, hv, A1, by rw [p4]; exact h6, h7⟩
  | h id q =>
   obtain ⟨m, t, h1, h2, ⟨n2, l2, f2, h3⟩, h6⟩ := h
   obtain ⟨m', t', p1, p2, p3, p4⟩ := hway h1 h2
   obtain ⟨f3, p5⟩ := p3 h3
   exact ⟨m', t', p1, p2, ⟨n2, l2, f3, p5⟩, by rw [p4]; exact h6⟩
  | a id q n2 lo l2 =>
   obtain ⟨m, t, h1, h2, ⟨l, f2, h3, h4⟩, hv, h6, h7⟩ := h
   obtain ⟨m', t', p1, p2, p3, p4⟩ := hway h1 h2
   obtain ⟨f3, p5⟩ := p3 h3
   exact ⟨m', t', p1, p2, ⟨l, f3, p5, h4⟩, hv, by rw [p4]; exact h6, h7⟩
  | _ => exact hl.elim
 refine ⟨hs.siz, hs.dfr, hs.chg, H', updN (updN G i fun a p => (G i a p ∧ ¬ Gx a p) ∨ False) d Gx, ⟨fun id m t m' t' h1 h2 => ?_, fun id m t h1 h2 => ?_, fun id t h1 => ?_, fun id t h1 => ?_, fun id t h1 => ?_, fun id m t id' m' t' h1 h2 hne2 hm x y hx hy => ?_, fun t x h => ?_, fun id c1 x h => ?_⟩, fun id m t h1 h2 x y hx => ?_, fun id m t h1 h2 => ?_⟩
 ·rcases hrt h1 with ⟨rfl, rfl, rfl⟩ | ⟨rfl, rfl, rfl⟩ | ⟨a1, a2, a3⟩ <;> rcases hrt h2 with ⟨b1, b2, b3⟩ | ⟨b1, b2, b3⟩ | ⟨b1, b2, b3⟩
  ·exact ⟨b2.symm, b3.symm⟩
  ·exact absurd b1 hdi
  ·exact absurd rfl b2
  ·exact absurd b1.symm hdi
  ·exact ⟨b2.symm, b3.symm⟩
  ·exact absurd rfl b1
  ·exact absurd b1 a2
  ·exact absurd b1 a1
  ·exact hr.one _ _ _ _ _ a3 b3
 ·rcases hrt h1 with ⟨rfl, rfl, rfl⟩ | ⟨rfl, rfl, rfl⟩ | ⟨a1, a2, a3⟩
  ·simp only [updN, if_true]; rw [hHd]; exact g3
  ·simp only [updN, if_neg (Ne.symm hdi), if_true]; rw [hHo hi']; exact k1
  ·simp only [updN, if_neg a1, if_neg a2]; rw [hHo a3]; exact hr.own _ _ _ a3 h2
 ·rcases hrt h1 with ⟨_, h, _⟩ | ⟨_, h, _⟩ | ⟨a1, a2, a3⟩
  ·cases h
  ·cases h
  ·simp only [updN, if_neg a1, if_neg a2]; rw [hHo a3]; exact hr.ro _ _ a3
 ·rcases hrt h1 with ⟨_, h, _⟩ | ⟨_, h, _⟩ | ⟨a1, a2, a3⟩
  ·cases h
  ·cases h
  ·simp only [updN, if_neg a1, if_neg a2]; exact hr.rold _ _ a3
 ·rcases hrt h1 with ⟨_, h, _⟩ | ⟨_, _, rfl⟩ | ⟨a1, a2, a3⟩
  ·cases h
  ·exact ⟨_, _, rfl⟩
  ·exact hr.box _ _ a3
 ·rcases hrt h1 with ⟨rfl, rfl, rfl⟩ | ⟨rfl, rfl, rfl⟩ | ⟨a1, a2, a3⟩ <;> rcases hrt h2 with ⟨b1, b2, b3⟩ | ⟨b1, b2, b3⟩ | ⟨b1, b2, b3⟩
  ·exact hne2 b1.symm
  ·subst b1
   simp only [updN, if_true] at hx
   simp only [updN, if_neg (Ne.symm hdi), if_true] at hy
   rcases hy with ⟨_, hy⟩ | hy
   ·exact hy hx
   ·exact hy
  ·simp only [updN, if_true] at hx
   simp only [updN, if_neg b1, if_neg b2] at hy
   exact hr.dis _ _ _ _ _ _ hi' b3 (Ne.symm b1) (by simp) x y (g6 x y hx) hy
  ·subst b1
   simp only [updN, if_true] at hy
   simp only [updN, if_neg (Ne.symm hdi), if_true] at hx
   rcases hx with ⟨_, hx⟩ | hx
   ·exact hx hy
   ·exact hx
  ·exact hne2 b1.symm
  ·simp only [updN, if_neg (Ne.symm hdi), if_true] at hx
   simp only [updN, if_neg b1, if_neg b2] at hy
   rcases hx with ⟨hx, _⟩ | hx
   ·exact hr.dis _ _ _ _ _ _ hi' b3 hne2 (by simp) x y hx hy
   ·exact hx
  ·subst b1
   simp only [updN, if_true] at hy
   simp only [updN, if_neg a1, if_neg a2] at hx
   exact hr.dis _ _ _ _ _ _ hi' a3 (Ne.symm a1) (by simp) x y (g6 x y hy) hx
  ·subst b1
   simp only [updN, if_neg (Ne.symm hdi), if_true] at hy
   simp only [updN, if_neg a1, if_neg a2] at hx
   rcases hy with ⟨hy, _⟩ | hy
   ·exact hr.dis _ _ _ _ _ _ hi' a3 (Ne.symm a1) (by simp) x y hy hx
   ·exact hy
  ·simp only [updN, if_neg a1, if_neg a2] at hx
   simp only [updN, if_neg b1, if_neg b2] at hy
   exact hr.dis _ _ _ _ _ _ a3 b3 hne2 hm x y hx hy
 ·rcases List.mem_cons.1 h with h | h
  ·cases h
  rcases List.mem_cons.1 h with h | h
  ·cases h
  obtain ⟨x', h1, rfl⟩ := hoistM_sl h
  exact VR.unsOk hleaf (hr.sl t x' h1)
 ·rcases List.mem_cons.1 h with h | h
  ·cases h
  rcases List.mem_cons.1 h with h | h
  ·cases h
   refine ⟨n, _, hri, hc, ⟨b0, o0, none⟩, x0, ?_, g2, ⟨_, _, hrd, trivial, ⟨_, _, _, rfl⟩, by rw [hHd]; rfl⟩⟩
   rw [hHo hi']
   obtain ⟨a0, l0, c0, q1, q2⟩ := adr_some g1
   rw [q1] at g1 ⊢
   rw [← g1]
   simp [adr]
  obtain ⟨x', h1, rfl⟩ := hoistM_al h
  obtain ⟨n3, f3, p1, p2, A3, v3, p3, p4, p5⟩ := hr.al id c1 x' h1
  by_cases e : id = i
  ·subst e
   have := (hr.one _ _ _ _ _ hi' p1).2
   cases this
   exact ⟨n, _, hri, p2, A3, v3, by rw [hHo hi']; exact p3, p4, VR.unsOk hleaf p5⟩
  ·exact ⟨n3, f3, hro e p1, p2, A3, v3, by rw [hHo p1]; exact p3, p4, VR.unsOk hleaf p5⟩
 ·rcases hrt h1 with ⟨rfl, rfl, rfl⟩ | ⟨rfl, rfl, rfl⟩ | ⟨a1, a2, a3⟩
  ·simp only [updN, if_true] at hx
   exact hG.1 _ _ _ hi' (by simp) x y (g6 x y hx)
  ·simp only [updN, if_neg (Ne.symm hdi), if_true] at hx
   rcases hx with ⟨hx, _⟩ | hx
   ·exact hG.1 _ _ _ hi' (by simp) x y hx
   ·exact hx.elim
  ·simp only [updN, if_neg a1, if_neg a2] at hx
   exact hG.1 _ _ _ a3 h2 x y hx
 ·rcases hrt h2 with ⟨rfl, rfl, rfl⟩ | ⟨rfl, rfl, rfl⟩ | ⟨a1, a2, a3⟩
  ·omega
  ·rw [hHo hi']; exact hG.2 _ _ _ h1 hi'
  ·rw [hHo a3]; exact hG.2 _ _ _ h1 a3
end Go.Proofs.YtimmbmphfgnelaaGreat.VM
namespace Go.Proofs.YtimmbmphfgnelaaGreat.VM
open Go Go.RowKit
theorem pbQuo4 (k : Nat) (h : k < 2 ^ 63) : pureBin .quo (iv k) (iv 4) = some (iv ((k / 4 : Nat) : Int)) := by
 show some (Value.int .i64 (IntKind.wrap .i64 ((k : Int).tdiv 4))) = _
 rw [Int.tdiv_eq_ediv_of_nonneg (by omega), show ((k : Int) / 4) = ((k / 4 : Nat) : Int) by omega, IntWalk.i64_in _ (by omega)]
theorem pbRem4 (k : Nat) : pureBin .rem (iv k) (iv 4) = some (iv ((k % 4 : Nat) : Int)) := by
 show some (Value.int .i64 ((k : Int).tmod 4)) = _
 have : ((k : Int).tmod 4) = ((k % 4 : Nat) : Int) := by rw [Int.tmod_eq_emod_of_nonneg (by omega)]; omega
 rw [this]
end Go.Proofs.YtimmbmphfgnelaaGreat.VM
namespace Go.Proofs.YtimmbmphfgnelaaGreat.VM
open Go Go.RowKit
/-! short words for the walks -/
section
variable {P : Program} {N : Nat} {L L' : List E} {Q : Exit → List E → Prop} {ops : Array Oper} {rest : List Oper} {o : Oper} {qs pend todo : List Nat} {S : Array Bool}
theorem qq {d : Nat} {x : X} {gb : Bool} (h : Qt P o L x) (k : AWL P N ops rest Q (putL L d x)) (hw : wantL ops L o = some gb := by exact rfl) (hgb : gb = true := by exact rfl) (hd : o.dst = some d := by exact rfl) (hN : d < N := by decide) : AWL P N ops (o :: rest) Q L := AWL.q hw hgb hd hN h k
theorem nm (k : AWL P N ops rest Q L') (h : L = L' := by simp only [go_sem, Int.reduceToNat, Nat.reduceLT, reduceIte, Nat.reduceEqDiff, Nat.reduceAdd, Nat.reduceMul, Nat.reduceBEq, reduceCtorEq]; rfl) : AWL P N ops rest Q L := AWL.nrm h k
theorem nl (k : Q .normal L') (h : L = L' := by simp only [go_sem, Int.reduceToNat, Nat.reduceLT, reduceIte, Nat.reduceEqDiff, Nat.reduceAdd, Nat.reduceMul, Nat.reduceBEq, reduceCtorEq]; rfl) : AWL P N ops [] Q L := AWL.nilE h k
theorem na (k : AWA P N ops qs Q S pend todo L') (h : L = L' := by first | (simp only [go_sem, Int.reduceToNat, Nat.reduceLT, reduceIte, Nat.reduceEqDiff, Nat.reduceAdd, Nat.reduceMul, Nat.reduceBEq, reduceCtorEq]; rfl) | rfl) : AWA P N ops qs Q S pend todo L := AWA.nrm h k
theorem tk (i : Nat) {x : X} {d : Nat} {o : Oper} {gb : Bool} (ho : ops[i]? = some o) (h : Qt P o L x) (k : AWA P N ops qs Q (S.setIfInBounds i true) (i :: pend) [] (putL L d x)) (hd : o.dst = some d := by exact rfl) (hq' : qs.contains i = true := by exact rfl) (hr : (Region.ready .any ops S).contains i = true := by decide +kernel) (hw : wantL ops L o = some gb := by exact rfl) (hgb : gb = true := by exact rfl) : AWA P N ops qs Q S pend [] L :=
 AWA.take i ho hd hq' hr (.on hw hgb h) k
theorem tg (i : Nat) {x : X} {d : Nat} {o : Oper} {gb : Bool} (ho : ops[i]? = some o) (hgb : gb = true) (h : Qt P o L x) (k : AWA P N ops qs Q (S.setIfInBounds i true) (i :: pend) [] (putL L d x)) (hd : o.dst = some d := by exact rfl) (hq' : qs.contains i = true := by exact rfl) (hr : (Region.ready .any ops S).contains i = true := by decide +kernel) (hw : wantL ops L o = some gb := by exact rfl) : AWA P N ops qs Q S pend [] L :=
 AWA.take i ho hd hq' hr (.on hw hgb h) k
theorem tf (i : Nat) {d : Nat} {o : Oper} {gb : Bool} (hgb : gb = false) (k : AWA P N ops qs Q (S.setIfInBounds i true) (i :: pend) [] (putL L d (.v undef))) (ho : ops[i]? = some o := by exact rfl) (hd : o.dst = some d := by exact rfl) (hq' : qs.contains i = true := by exact rfl) (hr : (Region.ready .any ops S).contains i = true := by decide +kernel) (hw : wantL ops L o = some gb := by exact rfl) : AWA P N ops qs Q S pend [] L :=
 AWA.take i ho hd hq' hr (.off hw hgb) k
theorem nz (k : Q .normal L') (hr : Region.ready .any ops S = [] := by decide +kernel) (h : L = L' := by first | (simp only [go_sem, Int.reduceToNat, Nat.reduceLT, reduceIte, Nat.reduceEqDiff, Nat.reduceAdd, Nat.reduceMul, Nat.reduceBEq, reduceCtorEq]; rfl) | rfl) : AWA P N ops qs Q S pend [] L := AWA.nilE hr h k
theorem ss {gb : Bool} (k : AWL P N ops rest Q L') (h : Stp P N o L L' := by first | exact Stp.storeA rfl rfl rfl rfl (by decide) rfl | exact Stp.store rfl rfl (by simp) rfl rfl rfl (by decide) rfl) (hw : wantL ops L o = some gb := by exact rfl) (hgb : gb = true := by exact rfl) : AWL P N ops (o :: rest) Q L := AWL.step hw hgb h k
theorem sp {gb : Bool} (h : Stp P N o L L') (k : AWL P N ops rest Q L') (hw : wantL ops L o = some gb := by exact rfl) (hgb : gb = true := by exact rfl) : AWL P N ops (o :: rest) Q L := AWL.step hw hgb h k
theorem jd (h : Q .normal L) : AW P N .skip Q L := AW.skip h
end
section
variable {P : Program} {L : List E} {dst : Option Tmp} {ty : TypeId} {pos : String} {af : Array Edge} {g : Option (Nat × Bool)}
theorem fA {t : TypeId} {x : Operand} {i off id : Nat} {q : Path} {n k c : Nat} {m : M} {T0 : T} {len : Nat} {f : Nat → Nat → T} (hF : Fld P t i off) (hx : evX L x = .p id q n k c := by exact rfl) (hR : rootL L id = some (m, T0) := by exact rfl) (hT : T0.at q = .s n len f := by exact rfl) (hc : c + off < n := by decide) : Qt P ⟨dst, .fieldAddr t x i, ty, pos, af, g⟩ L (.p id q n k (c + off)) := Qt.fieldAddr hx hF hR hT hc
end
/-- what a test says, in plain words -/
theorem cnd : (∀ (p : Prop) [Decidable p], (decide p = true) = p) ∧ (∀ (p : Prop) [Decidable p], (decide p = false) = ¬ p) ∧ (∀ a b : Int, ((a != b) = true) = ¬ (a = b)) ∧ (∀ a b : Int, ((a == b) = true) = (a = b)) ∧ (∀ a b : Int, ((a == b) = false) = ¬ (a = b)) ∧ (∀ a b : Int, ((a != b) = false) = (a = b)) ∧
    (∀ b : Bool, ((!b) = true) = (b = false)) ∧ (∀ b : Bool, ((!b) = false) = (b = true)) ∧ (∀ a b : Bool, ((a && b) = true) = (a = true ∧ b = true)) ∧ (∀ a b : Bool, ((a || b) = true) = (a = true ∨ b = true)) ∧ (∀ a b : Bool, ((a && b) = false) = (a = false ∨ b = false)) ∧ (∀ a b : Bool, ((a || b) = false) = (a = false ∧ b = false)) ∧
    (∀ a b : Int, (¬ a < b) = (b ≤ a)) ∧ (∀ a b : Int, (¬ a ≤ b) = (b < a)) ∧ (∀ n : Nat, (n : Int).toNat = n) := by
  refine ⟨?_, ?_, ?_, ?_, ?_, ?_, ?_, ?_, ?_, ?_, ?_, ?_, ?_, ?_, ?_⟩ <;> intros <;> first | (simp; done) | (rename_i a b; cases a <;> cases b <;> simp)
section
variable {P : Program} {N : Nat} {L : List E} {Q : Exit → List E → Prop} {ops : Array Oper} {rest : List Oper} {d : Nat} {ty : TypeId} {pos : String} {af : Array Edge} {g : Option (Nat × Bool)}
theorem cv {f : FuncId} {cal : Operand} {caps : List X} {args : Array Operand} {tys : Array TypeId} {xs : List X} {ρ : List E} {m : Nat} {r : Value} {gb : Bool} (hE : Ent P f) (hcal : evX L cal = .f f caps) (hq : roXs L (args.toList.map (evX L) ++ caps) base = (xs, ρ, m)) (hc : Con P f xs ρ fun x _ => x = .v r)
  (k : AWL P N ops rest Q (putL L d (.v r))) (hN : d < N := by decide) (hw : wantL ops L ⟨some d, .call { callee := .value cal, args := args, argTypes := tys }, ty, pos, af, g⟩ = some gb := by exact rfl) (hgb : gb = true := by exact rfl) : AWL P N ops (⟨some d, .call { callee := .value cal, args := args, argTypes := tys }, ty, pos, af, g⟩ :: rest) Q L :=
 AWL.step hw hgb (Stp.callV rfl hN hE hcal hq hc) k
end
end Go.Proofs.YtimmbmphfgnelaaGreat.VM
namespace Go.Proofs.YtimmbmphfgnelaaGreat.VM
open Go Go.RowKit
/-! strings laid together -/
theorem Chg.of_below {S : FP} {w w' : World} (h : Below w.heap.size w w') : Chg S w w' := by
 refine ⟨h.os, h.tape, h.output, h.size, fun b cur e fr hb => ⟨cur, ?_, rfl, fun _ _ => rfl⟩, fun b o hb _ => ?_⟩
 ·rw [h.block b (Array.getElem?_eq_some_iff.1 hb).1]; exact hb
 ·rw [h.block b (Array.getElem?_eq_some_iff.1 hb).1]; exact hb
def joinB (l : List ByteArray) : ByteArray := l.foldl (· ++ ·) ByteArray.empty
theorem joinB_app (l r : List ByteArray) : joinB (l ++ r) = r.foldl (· ++ ·) (joinB l) := List.foldl_append ..
theorem foldl_data (r : List ByteArray) : ∀ a : ByteArray, (r.foldl (· ++ ·) a).data.toList = a.data.toList ++ (r.map (·.data.toList)).flatten := by
  induction r with
  | nil => intro a; simp
  | cons x r ih => intro a; rw [List.foldl_cons, ih]; simp [List.append_assoc]
theorem joinB_join (l : List ByteArray) : (⟨(Go.Lib.join (l.map (·.data.toList)) ByteArray.empty.data.toList).toArray⟩ : ByteArray) = joinB l := by
 have h : ∀ xs : List (List UInt8), Go.Lib.join xs [] = xs.flatten := fun xs => by
  cases xs with
  | nil => rfl
  | cons x r =>
   rw [Go.Lib.join_cons, Go.Lib.joinTail]
   simp
 have h2 := foldl_data l ByteArray.empty
 have e : (joinB l).data.toList = (l.map (·.data.toList)).flatten := by rw [joinB, h2]; simp
 show (⟨(Go.Lib.join (l.map (·.data.toList)) []).toArray⟩ : ByteArray) = joinB l
 rw [h, ← e]
theorem con_join {P : Program} {f : FuncId}
  (hj : ∀ (bk o c : Nat) (xs : List ByteArray) (w : World), (∀ (j : Nat) x, xs[j]? = some x → w.cell? ⟨bk, o + j, none⟩ = some (.string x)) → bk < w.heap.size → xs.length ≤ 140737488355328 → xs.length ≤ c → (Go.Lib.join (xs.map (·.data.toList)) ByteArray.empty.data.toList).length ≤ 140737488355328 →
   Calls P f #[.slice (some ⟨bk, o, none⟩) xs.length c, .string ByteArray.empty] w fun e w' => e = .returned (.string ⟨(Go.Lib.join (xs.map (·.data.toList)) ByteArray.empty.data.toList).toArray⟩) ∧ Below w.heap.size w w')
  (h0 : ∀ (a : Option Addr) (c : Nat) (w : World), Calls P f #[.slice a 0 c, .string ByteArray.empty] w fun e w' => e = .returned (.string ⟨#[]⟩) ∧ w' = w)
  (l : List ByteArray) (hN : l.length ≤ 140737488355328) (hs : (joinB l).size ≤ 140737488355328) :
  Con P f [.h base [], .v (.string ByteArray.empty)] [.rt base .ro (tr l)] (fun y _ => y = .v (.string (joinB l))) := by
 intro w vs H G hr hv
 match vs, hv with
 | [v, s], ⟨⟨m, t, _, _, _, hh⟩, hs2, _⟩ =>
 simp only [hd, Option.some.injEq] at hh
 obtain rfl : s = .string ByteArray.empty := hs2
 have hR := hr.ro base (tr l) (List.mem_singleton.2 rfl)
 have hold := hr.rold base (tr l) (List.mem_singleton.2 rfl)
 obtain ⟨hn, a, cap, e0, hl, hm, b, off, V, Gk, h1, h2⟩ := hR
 have hv : v = .slice a l.length cap := by rw [← hh, e0]
 subst hv
 have fin : ∀ (e : Ending) (w' : World), e = .returned (.string (joinB l)) → Below w.heap.size w w' → ∃ v x L H' G' val, e = .returned v ∧ x = X.v (.string (joinB l)) ∧ Rp L val H' G' w' ∧ VR (rts L) H' w' x v ∧
   Chg (fun a o => ∃ id m t, rts [E.rt base .ro (tr l)] id m t ∧ m ≠ .ro ∧ G id a o) w w' ∧
   (∀ id m t, rts L id m t → m ≠ .ro → ∀ a o, G' id a o → (∃ id m t, rts [E.rt base .ro (tr l)] id m t ∧ m ≠ .ro ∧ G id a o) ∨ w.heap.size ≤ a) ∧
   ∀ id m t, base ≤ id → rts L id m t → H' id = H id := fun e w' he hb => by
  refine ⟨_, _, [], H, G, fun _ => undef, he, rfl, ?_, rfl, Chg.of_below hb, ?_, ?_⟩
  ·have no : ∀ {α : Prop} {e : E}, e ∈ ([] : List E) → α := fun h => by cases h
   exact ⟨fun _ _ _ _ _ h => no h, fun _ _ _ h => no h, fun _ _ h => no h, fun _ _ h => no h, fun _ _ h => no h, fun _ _ _ _ _ _ h => no h, fun _ _ h => no h, fun _ _ _ h => no h⟩
  ·intro _ _ _ h; cases h
  ·intro _ _ _ _ h; cases h
 rcases Nat.eq_zero_or_pos l.length with hz | hp
 ·have hl0 : l = [] := List.eq_nil_of_length_eq_zero hz
  subst hl0
  refine (h0 a cap w).mono fun e w' ⟨he, hw⟩ => fin e w' (he.trans rfl) (hw ▸ Below.refl _ _)
 ·obtain rfl := h1 hp
  have hcell : ∀ (j : Nat) x, l[j]? = some x → w.cell? ⟨b, off + j, none⟩ = some (.string x) := fun j x hx => by
   have hj : j < l.length := (List.getElem?_eq_some_iff.1 hx).1
   obtain ⟨g1, g2, _⟩ := h2 j 0 hj (by decide)
   rw [show j * En.n ByteArray + 0 = j from Nat.mul_one j] at g1
   have g3 : V j 0 = .string (l.getD j En.dflt) := g2.1
   rw [g1, g3]
   simp [List.getD_eq_getElem?_getD, hx]
  obtain ⟨g1, _, g3, _⟩ := h2 0 0 hp (by decide)
  refine (hj b off cap l w hcell (hold _ _ g3) hN hl ?_).mono fun e w' ⟨he, hw⟩ => fin e w' (he.trans (by rw [joinB_join])) hw
  have := congrArg ByteArray.size (joinB_join l)
  have h4 : (⟨(Go.Lib.join (l.map (·.data.toList)) ByteArray.empty.data.toList).toArray⟩ : ByteArray).size = (Go.Lib.join (l.map (·.data.toList)) ByteArray.empty.data.toList).length := by
   show Array.size _ = _
   simp
  omega
theorem app_strs {l ys : List ByteArray} {m : Nat} {g : Nat → Nat → T} (hm : m = ys.length) (hg : ∀ k, k < m → flatT (g k 0) = .v (.string (ys.getD k ByteArray.empty))) :
  (appT 1 l.length (fun k c => (En.cs (l.getD k En.dflt)).getD c .j) m fun k c => flatT (g k c)).sim (tr (l ++ ys)) := by
 subst hm
 exact app_sim (l' := ys) rfl (fun k c _ _ => rfl) fun k c hk hc => by
  have hc' : c < 1 := hc
  obtain rfl : c = 0 := by omega
  exact hg k hk
theorem sim_cells {α : Type} [En α] {l : List α} {n m : Nat} {f : Nat → Nat → T} (hn : n = En.n α) (hm : m = l.length) (h : ∀ k c, k < m → c < n → f k c = (En.cs (l.getD k En.dflt)).getD c .j) : (T.s n m f).sim (tr l) := by
 subst hn hm
 exact T.sim_of h
theorem sim_row1 {α : Type} [En α] {l : List α} {n m : Nat} {f : Nat → Nat → T} (h1 : En.n α = 1) (hn : n = En.n α) (hm : m = l.length) (h : ∀ k, k < m → f k 0 = (En.cs (l.getD k En.dflt)).getD 0 .j) : (T.s n m f).sim (tr l) :=
 sim_cells hn hm fun k c hk hc => by
  obtain rfl : c = 0 := by omega
  exact h k hk
/-- what is said of each of a list's elements, one behind the other -/
def catN {α : Type} (f : α → ByteArray) (d : α) (l : List α) : Nat → ByteArray
 | 0 => ByteArray.empty
 | k + 1 => catN f d l k ++ f (l.getD k d)
theorem catN_succ {α : Type} (f : α → ByteArray) (d : α) (l : List α) (k : Nat) : catN f d l (k + 1) = catN f d l k ++ f (l.getD k d) := rfl
theorem catN_size {α : Type} {f : α → ByteArray} {d : α} {l : List α} {m : Nat} (h : ∀ x, (f x).size ≤ m) : ∀ k, (catN f d l k).size ≤ k * m
 | 0 => by simp [catN]
 | k + 1 => by
  have h1 := catN_size h k (d := d) (l := l)
  have h2 := h (l.getD k d)
  rw [catN, ByteArray.size_append, Nat.add_mul]; omega
theorem catN_sizeP {α : Type} {f : α → ByteArray} {d : α} {l : List α} {m : Nat} (h : ∀ i, i < l.length → (f (l.getD i d)).size ≤ m) : ∀ k, k ≤ l.length → (catN f d l k).size ≤ k * m
 | 0, _ => by simp [catN]
 | k + 1, hk => by
  have h1 := catN_sizeP h k (by omega)
  have h2 := h k (by omega)
  rw [catN, ByteArray.size_append, Nat.add_mul]; omega
/-- the pieces so far, laid together, are s -/
structure JInv (s : Nat → ByteArray) (n m0 w : Nat) where
 k : Nat
 le : k ≤ n
 acc : List ByteArray
 eq : joinB acc = s k
 len : acc.length ≤ m0 + w * k
theorem JInv.next {s : Nat → ByteArray} {n m0 w : Nat} (i : JInv s n m0 w) (ys : List ByteArray) (h : ys.foldl (· ++ ·) (s i.k) = s (i.k + 1)) : joinB (i.acc ++ ys) = s (i.k + 1) := by rw [joinB_app, i.eq, h]
theorem JInv.more {s : Nat → ByteArray} {n m0 w : Nat} (i : JInv s n m0 w) (ys : List ByteArray) (h : ys.length = w) : (i.acc ++ ys).length ≤ m0 + w * (i.k + 1) := by
 rw [List.length_append, h, Nat.mul_add]; have := i.len; omega
end Go.Proofs.YtimmbmphfgnelaaGreat.VM
namespace Go.Proofs.YtimmbmphfgnelaaGreat.VM
open Go Go.RowKit
/-! shorter words for the walks -/
section
variable {P : Program} {N : Nat} {L L' : List E} {Q : Exit → List E → Prop} {ops : Array Oper} {l rest : List Oper} {o : Oper} {qs pend todo : List Nat} {S : Array Bool}
theorem Rf {id : Nat} {m : M} {t : T} (h : rootL L id = some (m, t)) : ∃ t0, rootL L id = some (m, t0) ∧ t0.sim t := ⟨t, h, T.sim_refl t⟩
theorem st1 {a b : X} (h : a = b := by simp only [slotL, reduceIte, Nat.reduceEqDiff]; first | rfl | (rw [IntWalk.i64_in _ (by omega)]; rfl)) : a = b := h
theorem rb {a b : Bool} (h : a = b) : retX [X.v (.bool a)] = X.v (.bool b) := by rw [h]; rfl
theorem AW.loopW {c : Code} {ι : Type} (J : ι → List E) (μ : ι → Nat) (i : ι) (hw : Weak N L (J i)) (h : ∀ i, AW P N c (thenQ (fun L => ∃ i', Weak N L (J i') ∧ μ i' < μ i) Q) (J i)) : AW P N (.loop c) Q L := AW.weak hw (AW.loop J μ i h)
theorem qg {d : Nat} {x : X} {gb : Bool} (hgb : gb = true) (h : Qt P o L x) (k : AWL P N ops rest Q (putL L d x)) (hw : wantL ops L o = some gb := by exact rfl) (hd : o.dst = some d := by exact rfl) (hN : d < N := by decide) : AWL P N ops (o :: rest) Q L := AWL.q hw hgb hd hN h k
theorem og {d : Nat} {gb : Bool} (hgb : gb = false) (k : AWL P N ops rest Q (putL L d (.v undef))) (hw : wantL ops L o = some gb := by exact rfl) (hd : o.dst = some d := by exact rfl) (hN : d < N := by decide) : AWL P N ops (o :: rest) Q L := AWL.out hw hgb hd hN k
theorem wj (d : Nat) (ds : List Nat) {v v' : Value} {LB : List E} (e : v = v') (hB : VM.dropS L ds = LB) (K : AWL P N ops l Q (putL LB d (.v v'))) (h : slotL L d = .v v := by exact rfl) : AWL P N ops l Q L := AWL.weak (Weak.join h e hB) K
theorem a1 (j : Nat) {L1 : List E} {gb : Bool} (pend' D : List Nat) (ho : ops[j]? = some o) (hgb : gb = true) (h : Stp P N o L L1) (k : AWA P N ops qs Q (S.setIfInBounds j true) pend' pend' L1) (hr : Region.ready .any ops S = [j] := by decide +kernel) (hw : wantL ops L o = some gb := by exact rfl)
  (hD : chainB ops [j] D = true := by decide +kernel) (hp : (pend.all fun i => pend'.contains i || D.contains i) = true := by decide +kernel) (hp' : (pend'.all fun i => pend.contains i) = true := by decide +kernel) : AWA P N ops qs Q S pend [] L := AWA.one j pend' D hr ho hw hgb hD hp hp' h k
theorem o1 (j : Nat) {d : Nat} {gb : Bool} (pend' D : List Nat) (ho : ops[j]? = some o) (hgb : gb = false) (k : AWA P N ops qs Q (S.setIfInBounds j true) pend' pend' (putL L d (.v undef))) (hr : Region.ready .any ops S = [j] := by decide +kernel) (hw : wantL ops L o = some gb := by exact rfl)
  (hD : chainB ops [j] D = true := by decide +kernel) (hp : (pend.all fun i => pend'.contains i || D.contains i) = true := by decide +kernel) (hp' : (pend'.all fun i => pend.contains i) = true := by decide +kernel) (hd : o.dst = some d := by exact rfl) (hN : d < N := by decide) : AWA P N ops qs Q S pend [] L := AWA.oneOff j pend' D hr ho hw hgb hD hp hp' hd hN k
end
end Go.Proofs.YtimmbmphfgnelaaGreat.VM
