/- Rules for new memory, stores, appends. No conditions. -/
import Derived.Deep.AppendSrc
import Derived.Laws.AppendOwn
import Derived.Test.YtimmbmphfgnelaaVmA
set_option linter.all false
namespace Go.Proofs.Ytimmbmphfgnelaa.VM
open Go Go.RowKit

section
variable {P : Program} {N : Nat} {Q : Exit → List E → Prop} {L : List E} {ops : Array Oper} {rest : List Oper} {dst : Option Tmp} {ty : TypeId} {pos : String} {af : Array Edge} {g : Option (Nat × Bool)} {d : Nat}
def evParts (L : List E) (parts : Array (Nat × Operand)) : List (Nat × X) := parts.toList.map fun p => (p.1, evX L p.2)
theorem evParts_ok {a : Act} {H : Nat → Value} {w : World} (he : ∀ y, VR (rts L) H w (evX L y) (Act.eval a y)) (parts : Array (Nat × Operand)) : (evParts L parts).length = (parts.toList.map fun p => (p.1, a.eval p.2)).length ∧
    ∀ (i : Nat) p v, (evParts L parts)[i]? = some p → (parts.toList.map fun p => (p.1, a.eval p.2))[i]? = some v → p.1 = v.1 ∧ VR (rts L) H w p.2 v.2 := by
  refine ⟨by simp [evParts], fun i p v h1 h2 => ?_⟩
  simp only [evParts, List.getElem?_map] at h1 h2
  cases hp : parts.toList[i]? with
  | none => rw [hp] at h1; cases h1
  | some q =>
    rw [hp] at h1 h2
    cases h1; cases h2
    exact ⟨rfl, he _⟩
theorem toList_parts {a : Act} (parts : Array (Nat × Operand)) : (parts.map fun x => (x.1, a.eval x.2)).toList = parts.toList.map fun p => (p.1, a.eval p.2) := by simp

theorem Qt.build {t : TypeId} {parts : Array (Nat × Operand)} {zt : List T} {fl : List (Nat × Nat)} [hT : TyI P t zt] [hB : BdI P t fl] {ys : List X} (hf : fillX (fl[·]?) (zt.map T.toX) (evParts L parts) = some ys) : Qt P ⟨dst, .build t parts, ty, pos, af, g⟩ L (.g ys) :=
  (fun H w a he ⟨val, G, hr⟩ => by
    obtain ⟨z, h1, h2, h3⟩ := hT.zero
    obtain ⟨fs, h4, h5⟩ := hB.st
    obtain ⟨e1, e2⟩ := evParts_ok he parts
    have hz : VRs (rts L) H w (zt.map T.toX) z.cells.toList := zero_ok (by simp [h2]) fun i y hy => by
      obtain ⟨c, k1, k2⟩ := h3 i y hy
      exact ⟨c, by simpa using k1, k2⟩
    obtain ⟨cs', g1, g2⟩ := fill_ok hr.ones hz e1 e2 hf
    refine ⟨.agg cs', run_v ?_, cs'.toList, by simp, g2⟩
    simp only [Instr.build, Sem.run_bind, h1 w, Result.andThen, run_underlying h4 w, h5 w]
    have hg : Instr.fill (fun i => fl.toArray[i]?) z.cells (parts.map fun x => (x.1, a.eval x.2)).toList = some cs' := by
      rw [toList_parts]; simpa using g1
    simp only [hg]
    rfl)

/-- a local variable that begins with a value -/
theorem Stp.box {t : TypeId} {x : Operand} {zt : List T} [hT : TyI P t zt] (hd : dst = some d) (hN : d < N) (hb : d < base) (hx : (evX L x).flat = true) (hl : (evX L x).leaves.length = zt.length) (hz : zpos zt = true) (ho : (evX L x).leaves.all X.one = true)
    (hnd : (movedOf (srcs L zt (evX L x).leaves)).Nodup) : Stp P N ⟨dst, .box t x, ty, pos, af, g⟩ L (putL (.rt d .box (rowT zt.length 1 (srcs L zt (evX L x).leaves)) :: delR (delRs L (movedOf (srcs L zt (evX L x).leaves))) d) d (.p d [] zt.length 0 0)) :=
  Stp.op (fun cx a w hs => by
    obtain ⟨H, G, hr, hG⟩ := hs.rp
    have hv := (ev_ok hr x).cells hr.ones hx
    obtain ⟨F, g1, g2, g3⟩ := new_row hs hr hG hv hl.symm hz ho hT.pos (len := 1) (by rw [hl, Nat.one_mul]) (by simp [maxLen]) hnd (e := t)
    refine ⟨.pointer (some ⟨w.heap.size, 0, none⟩), w.alloc (.cells (a.eval x).cells t), run_v (by simp [Instr.box, newVar, newRow]), ?_⟩
    rw [hd]
    exact hs.new hr.delRs (Good.sub hG fun _ _ _ h => (rts_delRs.1 h).1) (Chg.alloc _ _ _) hN hb (by simp) g1 (fun _ => ⟨_, _, rfl⟩) (fun id m t _ h => g2 id m t h) g3 (VR.box (m := .box) (List.mem_cons_self ..) hT.pos (by simp [updN])))
end
end Go.Proofs.Ytimmbmphfgnelaa.VM
namespace Go.Proofs.Ytimmbmphfgnelaa.VM
open Go Go.RowKit

section
variable {P : Program} {N : Nat} {Q : Exit → List E → Prop} {L : List E} {ops : Array Oper} {rest : List Oper} {dst : Option Tmp} {ty : TypeId} {pos : String} {af : Array Edge} {g : Option (Nat × Bool)} {d : Nat}
class SlI (P : Program) (t : TypeId) (e : outParam TypeId) : Prop where
  sl : P.underlying t = some (.slice e)

/-- zero cells, so many elements -/
def reps (zt : List T) : Nat → List T
  | 0 => []
  | k + 1 => zt ++ reps zt k
theorem reps_len (zt : List T) : ∀ k, (reps zt k).length = k * zt.length
  | 0 => by simp [reps]
  | k + 1 => by rw [reps, List.length_append, reps_len zt k, Nat.add_mul, Nat.one_mul, Nat.add_comm]
theorem reps_get (zt : List T) : ∀ (k i : Nat), i < k * zt.length → (reps zt k)[i]? = zt[i % zt.length]?
  | 0, i, h => by simp at h
  | k + 1, i, h => by
    rw [reps]
    by_cases hi : i < zt.length
    · rw [List.getElem?_append_left hi, Nat.mod_eq_of_lt hi]
    · rw [List.getElem?_append_right (by omega), reps_get zt k (i - zt.length) (by rw [Nat.add_mul, Nat.one_mul] at h; omega)]
      congr 1
      rw [Nat.mod_eq_sub_mod (a := i) (by omega)]
def zrow (n : Nat) (z : Array Value) : Array Value := (Array.range n).map (z[· % z.size]!)
theorem zrow_get {n : Nat} {z : Array Value} {i : Nat} (hi : i < n) (hz : 0 < z.size) : (zrow n z)[i]? = z[i % z.size]? := by
  have : i % z.size < z.size := Nat.mod_lt _ hz
  simp [zrow, hi, this]
theorem zrow_ok {R : RT} {H : Nat → Value} {w : World} {zt : List T} {z : Array Value} (hs : z.size = zt.length) (hp : 0 < zt.length) (h : ∀ (i : Nat) (y : T), zt[i]? = some y → ∃ c, z[i]? = some c ∧ ZC y c) (k : Nat) : VRs R H w ((reps zt k).map T.toX) (zrow (k * zt.length) z).toList := by
  refine zero_ok (by simp [reps_len, zrow]) fun i y hy => ?_
  have hi : i < k * zt.length := by
    rcases Nat.lt_or_ge i (k * zt.length) with h | h
    · exact h
    · rw [List.getElem?_eq_none (by rw [reps_len]; exact h)] at hy; cases hy
  rw [reps_get zt k i hi] at hy
  obtain ⟨c, h1, h2⟩ := h _ _ hy
  refine ⟨c, ?_, h2⟩
  rw [Array.getElem?_toList, zrow_get hi (by omega), hs]; exact h1

theorem Stp.buildSlice {t e : TypeId} {len : Nat} {parts : Array (Nat × Operand)} {zt : List T} [hS : SlI P t e] [hT : TyI P e zt] {ys : List X} (hd : dst = some d) (hN : d < N) (hb : d < base)
    (hf : fillX (fun i => some (i * zt.length, zt.length)) ((reps zt len).map T.toX) (evParts L parts) = some ys) (hsm : len * zt.length ≤ 2 ^ 24) (hyl : ys.length = len * zt.length) (hz : zpos (reps zt len) = true) (ho : ys.all X.one = true)
    (hnd : (movedOf (srcs L (reps zt len) ys)).Nodup) : Stp P N ⟨dst, .buildSlice t len parts, ty, pos, af, g⟩ L (putL (.rt d .row (rowT zt.length len (srcs L (reps zt len) ys)) :: delR (delRs L (movedOf (srcs L (reps zt len) ys))) d) d (.h d [])) :=
  Stp.op (fun cx a w hs => by
    obtain ⟨H, G, hr, hG⟩ := hs.rp
    obtain ⟨z, h1, h2, h3⟩ := hT.zero
    obtain ⟨e1, e2⟩ := evParts_ok (ev_ok hr) parts
    have hz0 : VRs (rts L) H w ((reps zt len).map T.toX) (zrow (len * zt.length) z.cells).toList := zrow_ok h2 hT.pos h3 len
    obtain ⟨cs', g1, g2⟩ := fill_ok hr.ones hz0 e1 e2 hf
    have hlm : len ≤ maxLen := by
      have : len * 1 ≤ len * zt.length := Nat.mul_le_mul_left _ hT.pos
      simp only [maxLen]; omega
    obtain ⟨F, k1, k2, k3⟩ := new_row hs hr hG g2 (by rw [reps_len, hyl]) hz ho hT.pos hyl hlm hnd (e := e)
    have hpos := hT.pos
    have h0 : (len * zt.length = 0) ↔ len = 0 := by
      constructor
      · intro h; rcases Nat.mul_eq_zero.1 h with h | h <;> omega
      · intro h; rw [h, Nat.zero_mul]
    refine ⟨.slice (some ⟨w.heap.size, 0, none⟩) len len, w.alloc (.cells cs' e), run_v ?_, ?_⟩
    · by_cases hc : len * zt.length = 0
      · have hf' : Instr.fill (fun i => some (i * zt.length, zt.length)) (Array.map (fun _ => (default : Value)) (Array.range 0)) (List.map (fun x => (x.fst, a.eval x.snd)) parts.toList) = some cs' := by
          rw [show Array.map (fun _ => (default : Value)) (Array.range 0) = zrow (len * zt.length) z.cells by rw [hc]; simp [zrow]]
          exact g1
        simp only [Instr.buildSlice, Sem.run_bind, run_underlying hS.sl w, Result.andThen, hT.size w, hc]
        simp [newRow, hf']
      · have hgt : ¬ (2 ^ 24 < len * zt.length) := by omega
        have hf' : Instr.fill (fun i => some (i * zt.length, zt.length)) (Array.map (fun x => z.cells[x % z.cells.size]!) (Array.range (len * zt.length))) (List.map (fun x => (x.fst, a.eval x.snd)) parts.toList) = some cs' := g1
        simp only [Instr.buildSlice, Sem.run_bind, run_underlying hS.sl w, Result.andThen, hT.size w]
        simp only [Nat.reducePow] at hgt
        simp [hgt, hc, h1 w, newRow, hf']
    · rw [hd]
      exact hs.new hr.delRs (Good.sub hG fun _ _ _ h => (rts_delRs.1 h).1) (Chg.alloc _ _ _) hN hb (by simp) k1 (fun h => by cases h) (fun id m t _ h => k2 id m t h) k3 ⟨.row, _, List.mem_cons_self .., by simp [Okp], ⟨_, _, _, by simp only [T.at, rowT]; rfl⟩, by simp only [VM.hd, updN, if_true]⟩)
end
end Go.Proofs.Ytimmbmphfgnelaa.VM
namespace Go.Proofs.Ytimmbmphfgnelaa.VM
open Go Go.RowKit

theorem modify_get {h : Array Obj} {b i : Nat} {f : Obj → Obj} : (h.modify b f)[i]? = if b = i then h[i]?.map f else h[i]? := by
  rw [Array.getElem?_modify]
theorem Chg.setCell {S : FP} {w : World} {b o : Nat} {v : Value} (hS : S b o) : Chg S w (w.setCell ⟨b, o, none⟩ v) := by
  refine ⟨rfl, rfl, rfl, by simp [World.setCell], fun i cur e fr h => ?_, fun i x h hx => ?_⟩
  · by_cases hi : b = i
    · subst hi
      refine ⟨cur.setIfInBounds o v, ?_, by simp, fun o' ho' => ?_⟩
      · simp only [World.setCell]
        rw [modify_get, if_pos rfl, h]
        rfl
      · have : o ≠ o' := fun e => ho' (e ▸ hS)
        rw [Array.getElem?_setIfInBounds_ne this]
    · refine ⟨cur, ?_, rfl, fun _ _ => rfl⟩
      simp only [World.setCell]
      rw [modify_get, if_neg hi]; exact h
  · simp only [World.setCell]
    rw [modify_get]
    split
    · rename_i hi; subst hi
      rw [h]
      cases x with
      | cells c e f => exact absurd rfl (hx c e f)
      | _ => rfl
    · exact h
theorem Chg.setCells {S : FP} {b : Nat} : ∀ {vs : List Value} {o : Nat} {w : World}, (∀ j, j < vs.length → S b (o + j)) → Chg S w (w.setCells b o vs)
  | [], _, _, _ => Chg.refl _ _
  | v :: vs, o, w, h => by
    have h1 : Chg S w (w.setCell ⟨b, o, none⟩ v) := Chg.setCell (by simpa using h 0 (by simp))
    refine h1.trans (Chg.setCells (vs := vs) (o := o + 1) fun j hj => ?_)
    have := h (j + 1) (by simp; omega)
    rwa [show o + (j + 1) = o + 1 + j by omega] at this
theorem Kd.frozen {w : World} {b sz : Nat} (h : Kd w b sz) (o : Nat) : w.frozen? ⟨b, o, none⟩ = false := by
  obtain ⟨cur, e, h1, _⟩ := h
  simp [World.frozen?, h1]
theorem Kd.cell {w : World} {b sz o : Nat} (h : Kd w b sz) (ho : o < sz) : (w.cell? ⟨b, o, none⟩).isSome = true := by
  obtain ⟨cur, e, h1, h2⟩ := h
  simp [World.cell?, h1, h2 ▸ ho]
theorem Chg.drew {S : FP} (w : World) : Chg S w w.drew := ⟨rfl, rfl, rfl, Nat.le_refl _, fun _ cur _ _ h => ⟨cur, h, rfl, fun _ _ => rfl⟩, fun _ _ h _ => h⟩

section
variable {P : Program} {w : World}
/-- append to what is owned -/
theorem own_app {t tx ty e : TypeId} {zt : List T} (hS : SlI P t e) (hT : TyI P e zt) {len : Nat} {f : Nat → Nat → T} {F : FP} {h : Value} (hO : Own w (.s zt.length len f) F h) {x : Value} {m : Nat} {news : List Value} (hs : Src P zt.length tx x m news w)
    {g : Nat → Nat → T} {Gn : Nat → Nat → FP} (hg : ∀ k c, k < m → c < zt.length → ∃ v, news[k * zt.length + c]? = some v ∧ Own w (g k c) (Gn k c) v)
    (hgd : ∀ k c k' c', (k ≠ k' ∨ c ≠ c') → k < m → c < zt.length → k' < m → c' < zt.length → ∀ x y, Gn k c x y → Gn k' c' x y → False)
    (hgF : ∀ k c, k < m → c < zt.length → ∀ x y, Gn k c x y → F x y → False) (hbig : len + m ≤ 4194304) :
    ∃ v' w' F', (Builtin.append_ #[t, tx] ty #[h, x]).run P w = .ok v' w' ∧ Own w' (.s zt.length (len + m) fun k c => if k < len then f k c else g (k - len) c) F' v' ∧ Chg F w w' ∧
      ∀ a o, F' a o → F a o ∨ (∃ k c, k < m ∧ c < zt.length ∧ Gn k c a o) ∨ w.heap.size ≤ a := by
  obtain ⟨i, z, hi, hsz, hby, hz, hzc, _⟩ := hT.info
  have hpos := hT.pos
  rw [← hsz] at hs
  obtain ⟨hn, a, cap, rfl, hl, hm, b, off, V, G, h1, h2, h3, h4, h5⟩ := hO
  have hmx : len + m ≤ maxLen := by simp only [maxLen]; omega
  by_cases hroom : len + m ≤ cap
  · by_cases hc0 : cap = 0
    · have hl0 : len = 0 := by omega
      have hm0 : m = 0 := by omega
      subst hl0 hm0 hc0
      have hn0 : news = [] := List.length_eq_zero_iff.1 (by rw [hs.newsLen, Nat.zero_mul])
      subst hn0
      refine ⟨.slice a 0 0, w, F, ?_, ⟨hn, a, 0, rfl, Nat.le_refl _, by simp [maxLen], b, off, V, G, fun h => by omega, fun k c hk => by omega, fun k c k' c' _ hk => by omega, fun k c hk => by omega, fun x y => ?_⟩, Chg.refl _ _, fun _ _ h => .inl h⟩
      · have hst : ∀ ad w, (storeCells ad []).run P w = .ok () w := fun _ _ => rfl
        rcases hs.kind with ⟨e', hk⟩ | hk <;> cases a <;> simp [Builtin.append_, run_underlying hS.sl, run_underlying hk, sizeOf, typeInfo, hi, hs.len, hs.cells, hst]
      · rw [h5]
    · obtain ⟨rfl, sz, hk, hoff⟩ := h1 (by omega)
      have hnl : news.length = m * zt.length := by rw [hs.newsLen, hsz]
      have hin : ∀ j, j < news.length → off + len * zt.length + j < off + cap * zt.length := fun j hj => by
        have : (len + m) * zt.length ≤ cap * zt.length := Nat.mul_le_mul_right _ hroom
        rw [Nat.add_mul] at this
        omega
      have hr := run_append_room_src (P := P) w t tx ty e i hS.sl hi b off len cap x m news hs hroom (fun j hj => hk.cell (by rw [hsz]; have := hin j hj; omega)) (fun j _ => hk.frozen _)
      rw [hsz] at hr
      have hC : Chg (rowFP b (off + len * zt.length) news.length) w (w.setCells b (off + len * zt.length) news) := Chg.setCells fun j hj => ⟨rfl, by omega, by omega⟩
      have hsub : ∀ x y, rowFP b (off + len * zt.length) news.length x y → rowFP b off (cap * zt.length) x y := fun x y ⟨e1, e2, e3⟩ => ⟨e1, by omega, by
        have : (len + m) * zt.length ≤ cap * zt.length := Nat.mul_le_mul_right _ hroom
        rw [Nat.add_mul] at this
        omega⟩
      have hrowF : ∀ x y, rowFP b off (cap * zt.length) x y → F x y := fun x y h => (h5 x y).2 (.inl ⟨by omega, h⟩)
      refine ⟨_, _, fun a o => F a o ∨ ∃ k c, k < m ∧ c < zt.length ∧ Gn k c a o, hr, ⟨hn, _, cap, rfl, hroom, hm, b, off, fun k c => if k < len then V k c else (news[(k - len) * zt.length + c]?).getD undef, fun k c => if k < len then G k c else Gn (k - len) c, fun _ => ⟨rfl, sz, hk.chg hC, hoff⟩, ?_, ?_, ?_, ?_⟩, hC.mono fun b' o' _ h => hrowF _ _ (hsub _ _ h), fun a o h => h.imp_right .inl⟩
      · intro k c hk' hc
        by_cases hlt : k < len
        · simp only [hlt, if_true]
          obtain ⟨e1, e2⟩ := h2 k c hlt hc
          refine ⟨hC.cell e1 fun ⟨_, h, _⟩ => ?_, e2.frame hC fun x y hG hx => h4 k c hlt hc x y hG (hsub x y hx)⟩
          have := row_lt (Nat.le_refl len) hlt hc
          omega
        · simp only [hlt, if_false]
          obtain ⟨v, e1, e2⟩ := hg (k - len) c (by omega) hc
          have hj : (k - len) * zt.length + c < news.length := by rw [hnl]; exact row_lt (Nat.le_refl m) (by omega) hc
          refine ⟨?_, ?_⟩
          · have := World.cell?_setCells_in b news (off + len * zt.length) w (fun j hj => hk.cell (by have := hin j hj; omega)) _ hj
            rw [show off + (k * zt.length + c) = off + len * zt.length + ((k - len) * zt.length + c) by rw [Nat.sub_mul]; have : len * zt.length ≤ k * zt.length := Nat.mul_le_mul_right _ (by omega); omega]
            rw [this, List.getElem?_eq_getElem hj]; rfl
          · rw [e1]
            exact e2.frame hC fun x y hG hx => hgF (k - len) c (by omega) hc x y hG (hrowF _ _ (hsub x y hx))
      · intro k c k' c' hne hk1 hc1 hk2 hc2 x y g1 g2
        by_cases e1 : k < len <;> by_cases e2 : k' < len <;> simp only [e1, e2, if_true, if_false] at g1 g2
        · exact h3 k c k' c' hne e1 hc1 e2 hc2 x y g1 g2
        · exact hgF (k' - len) c' (by omega) hc2 x y g2 ((h5 x y).2 (.inr ⟨k, c, e1, hc1, g1⟩))
        · exact hgF (k - len) c (by omega) hc1 x y g1 ((h5 x y).2 (.inr ⟨k', c', e2, hc2, g2⟩))
        · exact hgd (k - len) c (k' - len) c' (by omega) (by omega) hc1 (by omega) hc2 x y g1 g2
      · intro k c hk1 hc1 x y g hrow
        by_cases e1 : k < len <;> simp only [e1, if_true, if_false] at g
        · exact h4 k c e1 hc1 x y g hrow
        · exact hgF (k - len) c (by omega) hc1 x y g (hrowF x y hrow)
      · intro x y
        constructor
        · rintro (h | ⟨k, c, hk1, hc1, h⟩)
          · rcases (h5 x y).1 h with h | ⟨k, c, hk1, hc1, h⟩
            · exact .inl h
            · exact .inr ⟨k, c, by omega, hc1, by simp only [hk1, if_true]; exact h⟩
          · exact .inr ⟨len + k, c, by omega, hc1, by show (if len + k < len then _ else _ : FP) x y; rw [if_neg (by omega), Nat.add_sub_cancel_left]; exact h⟩
        · rintro (h | ⟨k, c, hk1, hc1, h⟩)
          · exact .inl ((h5 x y).2 (.inl h))
          · by_cases e1 : k < len <;> simp only [e1, if_true, if_false] at h
            · exact .inl ((h5 x y).2 (.inr ⟨k, c, e1, hc1, h⟩))
            · exact .inr ⟨k - len, c, by omega, hc1, h⟩
  · have hb2 : (len + m) * i.bytes ≤ 140737488355328 := by
      have := Nat.mul_le_mul hbig hby; omega
    have holds : ∃ olds : List Value, olds.length = len * zt.length ∧ (∀ k c, k < len → c < zt.length → olds[k * zt.length + c]? = some (V k c)) ∧ (Builtin.firstCells i.size len (.slice a len cap)).run P w.drew = .ok olds.toArray w.drew := by
      by_cases hl0 : len = 0
      · subst hl0
        refine ⟨[], by simp, fun k c hk => by omega, ?_⟩
        cases a with
        | none => simp [Builtin.firstCells]
        | some a => exact run_firstCells_some (P := P) w.drew i.size 0 a 0 cap [] (by simp) (by simp)
      · obtain ⟨rfl, _⟩ := h1 (by omega)
        refine ⟨(List.range (len * zt.length)).map fun j => V (j / zt.length) (j % zt.length), by simp, fun k c hk hc => ?_, ?_⟩
        · have hlt := row_lt (Nat.le_refl len) hk hc
          simp only [List.getElem?_map, List.getElem?_range hlt, Option.map_some]
          rw [show (k * zt.length + c) / zt.length = k by rw [Nat.mul_comm, Nat.mul_add_div hpos, Nat.div_eq_of_lt hc]; rfl, show (k * zt.length + c) % zt.length = c by rw [Nat.mul_comm, Nat.mul_add_mod, Nat.mod_eq_of_lt hc]]
        · refine run_firstCells_some (P := P) w.drew i.size len ⟨b, off, none⟩ len cap _ (by simp [hsz]) fun j v hj => ?_
          simp only [List.getElem?_map] at hj
          have hlt : j < len * zt.length := by
            rcases Nat.lt_or_ge j (len * zt.length) with h | h
            · exact h
            · rw [List.getElem?_eq_none (by simpa using h)] at hj; cases hj
          rw [List.getElem?_range hlt] at hj
          simp only [Option.map_some, Option.some.injEq] at hj
          rw [← hj, Addr.add_lit]
          have hd : j / zt.length < len := (Nat.div_lt_iff_lt_mul hpos).2 hlt
          have := (h2 (j / zt.length) (j % zt.length) hd (Nat.mod_lt _ hpos)).1
          rw [show j / zt.length * zt.length + j % zt.length = j by rw [Nat.mul_comm]; exact Nat.div_add_mod j zt.length] at this
          simpa using this
    obtain ⟨olds, o1, o2, o3⟩ := holds
    have hr := run_append_grow_src (P := P) w t tx ty e i z hS.sl hi hz a len cap olds o3 x m news hs (by omega) (by omega) (growslice_fits (by omega) hb2)
    have hge := grownCap_ge w (len + m) cap e
    have hcm := grownCap_le_maxLen w (len + m) cap e hmx
    have hnl : news.length = m * zt.length := by rw [hs.newsLen, hsz]
    have hold : ∀ k c, k < len → c < zt.length → ∀ x y, G k c x y → F x y := fun k c hk hc x y h => (h5 x y).2 (.inr ⟨k, c, hk, hc, h⟩)
    refine ⟨_, _, _, hr, (Own.alloc (w := w.drew) (n := zt.length) (len := len + m) (cap := grownCap w (len + m) cap e) hn hge hcm ?_ (fun k c => if k < len then G k c else Gn (k - len) c) ?_ ?_), (Chg.drew w).trans (Chg.alloc _ _ _), ?_⟩
    · simp only [Array.size_append, List.size_toArray, List.length_append, size_zeroCells, hzc, o1, hnl, ← Nat.add_mul]
      congr 1; omega
    · intro k c hk hc
      by_cases e1 : k < len
      · simp only [e1, if_true]
        have hlt := row_lt (Nat.le_refl len) e1 hc
        refine ⟨V k c, ?_, (h2 k c e1 hc).2.frame (Chg.drew (S := fun _ _ => False) w) fun _ _ _ h => h⟩
        rw [Array.getElem?_append_left (by simp; omega)]
        simp only [List.getElem?_toArray]
        rw [List.getElem?_append_left (by omega)]
        exact o2 k c e1 hc
      · simp only [e1, if_false]
        obtain ⟨v, g1, g2⟩ := hg (k - len) c (by omega) hc
        have hlt := row_lt (Nat.le_refl m) (show k - len < m by omega) hc
        refine ⟨v, ?_, g2.frame (Chg.drew (S := fun _ _ => False) w) fun _ _ _ h => h⟩
        have hk2 : k * zt.length + c = len * zt.length + ((k - len) * zt.length + c) := by
          rw [Nat.sub_mul]; have : len * zt.length ≤ k * zt.length := Nat.mul_le_mul_right _ (by omega); omega
        rw [Array.getElem?_append_left (by simp; omega)]
        simp only [List.getElem?_toArray]
        rw [List.getElem?_append_right (by omega), hk2, o1, Nat.add_sub_cancel_left]
        exact g1
    · intro k c k' c' hne hk1 hc1 hk2 hc2 x y g1 g2
      by_cases e1 : k < len <;> by_cases e2 : k' < len <;> simp only [e1, e2, if_true, if_false] at g1 g2
      · exact h3 k c k' c' hne e1 hc1 e2 hc2 x y g1 g2
      · exact hgF (k' - len) c' (by omega) hc2 x y g2 (hold k c e1 hc1 x y g1)
      · exact hgF (k - len) c (by omega) hc1 x y g1 (hold k' c' e2 hc2 x y g2)
      · exact hgd (k - len) c (k' - len) c' (by omega) (by omega) hc1 (by omega) hc2 x y g1 g2
    · rintro x y (⟨_, h, _⟩ | ⟨k, c, hk1, hc1, h⟩)
      · exact .inr (.inr (by simp at h; omega))
      · by_cases e1 : k < len <;> simp only [e1, if_true, if_false] at h
        · exact .inl (hold k c e1 hc1 x y h)
        · exact .inr (.inl ⟨k - len, c, by omega, hc1, h⟩)
end
end Go.Proofs.Ytimmbmphfgnelaa.VM
namespace Go.Proofs.Ytimmbmphfgnelaa.VM
open Go Go.RowKit

/-- p begins as q does (rows not looked at) -/
def pre : Path → Path → Bool
  | [], _ => true
  | (_, _, c) :: q, p => match p with
    | [] => false
    | (_, _, c') :: p => Nat.beq c c' && pre q p
theorem pre_thru : ∀ {q r : Path} {n k c : Nat}, thru q k c r → pre (q ++ [(n, k, c)]) r = true
  | [], r, n, k, c, ⟨n', s, h⟩ => by
    subst h
    simp [pre]
  | (n0, k0, c0) :: q, r, n, k, c, ⟨n', s, h⟩ => by
    subst h
    simp only [List.cons_append, pre, Nat.beq_refl, Bool.true_and]
    exact pre_thru ⟨n', s, rfl⟩
mutual
/-- does X go through the node (id, q) -/
def X.thr (id : Nat) (q : Path) : X → Bool
  | .p id' q' .. => Nat.beq id' id && pre q q'
  | .h id' q' => Nat.beq id' id && pre q q'
  | .a id' q' .. => Nat.beq id' id && pre q q'
  | .g xs => X.thrs id q xs
  | .t xs => X.thrs id q xs
  | .f _ xs => X.thrs id q xs
  | _ => false
def X.thrs (id : Nat) (q : Path) : List X → Bool
  | [] => false
  | x :: xs => X.thr id q x || X.thrs id q xs
end
mutual
theorem X.all_thr {id : Nat} {q : Path} : ∀ {x : X}, X.thr id q x = false → X.all (fun x => X.thr id q x = false) x
  | .g _, e => X.alls_thr e
  | .t _, e => X.alls_thr e
  | .f _ _, e => X.alls_thr e
  | .v _, e => e
  | .j, e => e
  | .c, e => e
  | .p .., e => e
  | .h .., e => e
  | .a .., e => e
theorem X.alls_thr {id : Nat} {q : Path} : ∀ {xs : List X}, X.thrs id q xs = false → X.alls (fun x => X.thr id q x = false) xs
  | [], _ => trivial
  | x :: xs, e => by
    simp only [X.thrs, Bool.or_eq_false_iff] at e
    exact ⟨X.all_thr e.1, X.alls_thr e.2⟩
end

theorem put_at : ∀ {q : Path} {t : T} {k c : Nat} {y : T} {r : Path}, Okp t q → ¬ thru q k c r → Okp t r → Okp (t.put q k c y) r ∧ ∀ {n len : Nat} {f : Nat → Nat → T}, t.at r = .s n len f → ∃ f', (t.put q k c y).at r = .s n len f'
  | q, t, k, c, y, [], _, _, _ => by
    refine ⟨by simp [Okp], fun {n len f} h => ?_⟩
    simp only [T.at] at h ⊢
    subst h
    cases q with
    | nil => exact ⟨_, by simp only [T.put]; rfl⟩
    | cons a q => exact ⟨_, by simp only [T.put]; rfl⟩
  | [], .s n1 l1 f1, k, c, y, (n', k', c') :: r, _, h, hq => by
    obtain ⟨h1, h2, h3, h4⟩ := hq
    have hne : ¬ (k' = k ∧ c' = c) := by rintro ⟨rfl, rfl⟩; exact h ⟨n', r, rfl⟩
    simp only [T.put, Okp, T.at, VM.upd, hne, if_false]
    exact ⟨⟨h1, h2, h3, h4⟩, fun h => ⟨_, h⟩⟩
  | (n0, k0, c0) :: q, .s n1 l1 f1, k, c, y, (n', k', c') :: r, hq0, h, hq => by
    obtain ⟨h1, h2, h3, h4⟩ := hq
    obtain ⟨e1, _, _, e4⟩ := hq0
    simp only [T.put, Okp, T.at]
    by_cases e : k' = k0 ∧ c' = c0
    · obtain ⟨rfl, rfl⟩ := e
      simp only [VM.upd, and_self, if_true]
      have hr : ¬ thru q k c r := fun ⟨n2, s, hs⟩ => h ⟨n2, s, by rw [hs, h1, e1]; rfl⟩
      obtain ⟨g1, g2⟩ := put_at (y := y) e4 hr h4
      exact ⟨⟨h1, h2, h3, g1⟩, g2⟩
    · simp only [VM.upd, e, if_false]
      exact ⟨⟨h1, h2, h3, h4⟩, fun h => ⟨_, h⟩⟩
  | [], .v _, _, _, _, _ :: _, _, _, hq => hq.elim
  | [], .j, _, _, _, _ :: _, _, _, hq => hq.elim
  | _ :: _, .v _, _, _, _, _ :: _, _, _, hq => hq.elim
  | _ :: _, .j, _, _, _, _ :: _, _, _, hq => hq.elim

/-- the root's tree turns; what goes through (id, r) is forgotten -/
def setQ : List E → Nat → Path → T → List E
  | [], _, _, _ => []
  | .sl s x :: L, id, r, t => if X.thr id r x then setQ L id r t else .sl s x :: setQ L id r t
  | .rt i m t' :: L, id, r, t => if i = id then .rt i m t :: setQ L id r t else .rt i m t' :: setQ L id r t
  | .al i c x :: L, id, r, t => if (Nat.beq i id && pre r [(0, 0, c)]) || X.thr id r x then setQ L id r t else .al i c x :: setQ L id r t
theorem setQ_sl : ∀ {L : List E} {id : Nat} {r : Path} {t : T} {s : Nat} {x : X}, E.sl s x ∈ setQ L id r t → E.sl s x ∈ L ∧ X.thr id r x = false
  | .sl s' x' :: L, id, r, t, s, x, h => by
    simp only [setQ] at h
    split at h
    · obtain ⟨h1, h2⟩ := setQ_sl h; exact ⟨List.mem_cons_of_mem _ h1, h2⟩
    · rename_i hx
      rcases List.mem_cons.1 h with h | h
      · cases h; exact ⟨List.mem_cons_self .., by simpa using hx⟩
      · obtain ⟨h1, h2⟩ := setQ_sl h; exact ⟨List.mem_cons_of_mem _ h1, h2⟩
  | .rt i m t' :: L, id, r, t, s, x, h => by
    simp only [setQ] at h
    split at h <;>
    · rcases List.mem_cons.1 h with h | h
      · cases h
      · obtain ⟨h1, h2⟩ := setQ_sl h; exact ⟨List.mem_cons_of_mem _ h1, h2⟩
  | .al i c x' :: L, id, r, t, s, x, h => by
    simp only [setQ] at h
    split at h
    · obtain ⟨h1, h2⟩ := setQ_sl h; exact ⟨List.mem_cons_of_mem _ h1, h2⟩
    · rcases List.mem_cons.1 h with h | h
      · cases h
      · obtain ⟨h1, h2⟩ := setQ_sl h; exact ⟨List.mem_cons_of_mem _ h1, h2⟩
theorem setQ_al : ∀ {L : List E} {id : Nat} {r : Path} {t : T} {s c : Nat} {x : X}, E.al s c x ∈ setQ L id r t → E.al s c x ∈ L ∧ X.thr id r x = false ∧ (s = id → pre r [(0, 0, c)] = false)
  | .sl s' x' :: L, id, r, t, s, c, x, h => by
    simp only [setQ] at h
    split at h
    · obtain ⟨h1, h2⟩ := setQ_al h; exact ⟨List.mem_cons_of_mem _ h1, h2⟩
    · rcases List.mem_cons.1 h with h | h
      · cases h
      · obtain ⟨h1, h2⟩ := setQ_al h; exact ⟨List.mem_cons_of_mem _ h1, h2⟩
  | .rt i m t' :: L, id, r, t, s, c, x, h => by
    simp only [setQ] at h
    split at h <;>
    · rcases List.mem_cons.1 h with h | h
      · cases h
      · obtain ⟨h1, h2⟩ := setQ_al h; exact ⟨List.mem_cons_of_mem _ h1, h2⟩
  | .al i c' x' :: L, id, r, t, s, c, x, h => by
    simp only [setQ] at h
    split at h
    · obtain ⟨h1, h2⟩ := setQ_al h; exact ⟨List.mem_cons_of_mem _ h1, h2⟩
    · rename_i hx
      rcases List.mem_cons.1 h with h | h
      · cases h
        simp only [Bool.or_eq_true, not_or, Bool.not_eq_true, Bool.and_eq_false_iff] at hx
        refine ⟨List.mem_cons_self .., hx.2, fun e => ?_⟩
        subst e
        rcases hx.1 with h | h
        · simp at h
        · exact h
      · obtain ⟨h1, h2⟩ := setQ_al h; exact ⟨List.mem_cons_of_mem _ h1, h2⟩
theorem rts_setQ : ∀ {L : List E} {id : Nat} {r : Path} {t : T} {i : Nat} {m : M} {t' : T}, rts (setQ L id r t) i m t' ↔ (i = id ∧ t' = t ∧ ∃ t0, rts L id m t0) ∨ (i ≠ id ∧ rts L i m t')
  | [], _, _, _, _, _, _ => by simp [rts, setQ]
  | .sl s x :: L, id, r, t, i, m, t' => by
    have := rts_setQ (L := L) (id := id) (r := r) (t := t) (i := i) (m := m) (t' := t')
    simp only [rts, setQ] at this ⊢
    split <;> simp [this]
  | .al s c x :: L, id, r, t, i, m, t' => by
    have := rts_setQ (L := L) (id := id) (r := r) (t := t) (i := i) (m := m) (t' := t')
    simp only [rts, setQ] at this ⊢
    split <;> simp [this]
  | .rt j m1 t1 :: L, id, r, t, i, m, t' => by
    have := rts_setQ (L := L) (id := id) (r := r) (t := t) (i := i) (m := m) (t' := t')
    simp only [rts, setQ] at this ⊢
    split
    · rename_i hj; subst hj
      simp only [List.mem_cons, this, E.rt.injEq]
      constructor
      · rintro (⟨rfl, rfl, rfl⟩ | ⟨rfl, rfl, t0, h⟩ | ⟨h1, h2⟩)
        · exact .inl ⟨rfl, rfl, t1, .inl (by simp)⟩
        · exact .inl ⟨rfl, rfl, t0, .inr h⟩
        · exact .inr ⟨h1, .inr h2⟩
      · rintro (⟨rfl, rfl, t0, ⟨_, rfl, rfl⟩ | h⟩ | ⟨h1, ⟨rfl, _⟩ | h2⟩)
        · exact .inl ⟨rfl, rfl, rfl⟩
        · exact .inr (.inl ⟨rfl, rfl, t0, h⟩)
        · exact absurd rfl h1
        · exact .inr (.inr ⟨h1, h2⟩)
    · rename_i hj
      simp only [List.mem_cons, this, E.rt.injEq]
      constructor
      · rintro (⟨rfl, rfl, rfl⟩ | ⟨rfl, rfl, t0, h⟩ | ⟨h1, h2⟩)
        · exact .inr ⟨hj, .inl ⟨rfl, rfl, rfl⟩⟩
        · exact .inl ⟨rfl, rfl, t0, .inr h⟩
        · exact .inr ⟨h1, .inr h2⟩
      · rintro (⟨rfl, rfl, t0, ⟨rfl, _⟩ | h⟩ | ⟨h1, ⟨rfl, rfl, rfl⟩ | h2⟩)
        · exact absurd rfl hj
        · exact .inr (.inl ⟨rfl, rfl, t0, h⟩)
        · exact .inl ⟨rfl, rfl, rfl⟩
        · exact .inr (.inr ⟨h1, h2⟩)
end Go.Proofs.Ytimmbmphfgnelaa.VM
namespace Go.Proofs.Ytimmbmphfgnelaa.VM
open Go Go.RowKit

section
variable {L : List E} {val : Nat → Value} {H : Nat → Value} {G : Nat → FP} {w w' : World}
theorem Rp.rd (hr : Rp L val H G w) {id : Nat} {m : M} {t : T} (h : rts L id m t) : Rd w t (G id) (H id) := by
  cases m with
  | ro => exact hr.ro id t h
  | box => exact (hr.own id _ t h (by simp)).rd
  | row => exact (hr.own id _ t h (by simp)).rd
theorem box_put {n : Nat} {f : Nat → Nat → T} {q : Path} {k c : Nat} {y : T} : ∃ f', (T.s n 1 f).put q k c y = .s n 1 f' := by
  cases q with
  | nil => exact ⟨_, by simp only [T.put]; rfl⟩
  | cons a q => exact ⟨_, by simp only [T.put]; rfl⟩

/-- a deep cell of a root of the call's own turns -/
theorem Rp.store (hr : Rp L val H G w) {id : Nat} {m : M} {t : T} (hm : m ≠ .ro) (hid : rts L id m t) {q : Path} (hq : Okp t q) {n len : Nat} {f : Nat → Nat → T} (ht : t.at q = .s n len f) {k c : Nat} (hk : k < len) (hc : c < n) :
    ∃ (h' : Value) (b o : Nat) (x : Value) (Gx : FP), VM.hd w (H id) q = some h' ∧ adr h' n k c = some ⟨b, o, none⟩ ∧ w.cell? ⟨b, o, none⟩ = some x ∧ Own w (f k c) Gx x ∧ (∃ sz, Kd w b sz) ∧ G id b o ∧ (∀ a p, Gx a p → G id a p) ∧ ¬ Gx b o ∧
      ∀ {L1 : List E} {w' : World} {S : FP} {y : T} {x' : Value} {Gy : FP}, Rp L1 val H G w → rts L1 id m t → (∀ i m t, rts L1 i m t → rts L i m t) → Chg S w w' → (∀ a p, S a p → (a = b ∧ p = o) ∨ Gx a p) → w'.cell? ⟨b, o, none⟩ = some x' → Own w' y Gy x' →
        (∀ a p, Gy a p → Gx a p ∨ ∀ i m t, rts L1 i m t → ¬ G i a p) →
        Rp (setQ L1 id (q ++ [(n, k, c)]) (t.put q k c y)) val H (updN G id fun a p => (G id a p ∧ ¬ Gx a p) ∨ Gy a p) w' ∧ ∀ {x v}, X.thr id (q ++ [(n, k, c)]) x = false → VR (rts L1) H w x v → VR (rts (setQ L1 id (q ++ [(n, k, c)]) (t.put q k c y))) H w' x v := by
  obtain ⟨h', b, o, x, Gx, e1, e2, e3, e4, e5, e6, e7, e8, e9⟩ := (hr.own id m t hid hm).upd hq ht hk hc
  refine ⟨h', b, o, x, Gx, e1, e2, e3, e4, e6, e5, e7, e8, ?_⟩
  intro L1 w' S y x' Gy hr1 hid1 hsub hC hS hx' hy hGy
  obtain ⟨k1, k2⟩ := e9 hC hS hx' hy fun a p h => (hGy a p h).imp_right fun h => h _ _ _ hid1
  have hSG : ∀ a p, S a p → G id a p := fun a p h => by
    rcases hS a p h with ⟨rfl, rfl⟩ | h
    · exact e5
    · exact e7 a p h
  have hoth : ∀ i m' t', i ≠ id → rts L1 i m' t' → ∀ a p, G i a p → ¬ S a p := fun i m' t' hne h a p hg hs => hr1.dis id m t i m' t' hid1 h (Ne.symm hne) hm a p (hSG a p hs) hg
  have hrt : ∀ {i m' t'}, rts (setQ L1 id (q ++ [(n, k, c)]) (t.put q k c y)) i m' t' → (i = id ∧ m' = m ∧ t' = t.put q k c y) ∨ (i ≠ id ∧ rts L1 i m' t') := fun h => by
    rcases rts_setQ.1 h with ⟨rfl, rfl, t0, h⟩ | h
    · obtain ⟨rfl, _⟩ := hr1.one _ _ _ _ _ h hid1; exact .inl ⟨rfl, rfl, rfl⟩
    · exact .inr h
  have hnew : rts (setQ L1 id (q ++ [(n, k, c)]) (t.put q k c y)) id m (t.put q k c y) := rts_setQ.2 (.inl ⟨rfl, rfl, t, hid1⟩)
  have hleaf : ∀ i q' m' t', rts L1 i m' t' → Okp t' q' → (Nat.beq i id && pre (q ++ [(n, k, c)]) q') = false →
      ∃ m2 t2, rts (setQ L1 id (q ++ [(n, k, c)]) (t.put q k c y)) i m2 t2 ∧ Okp t2 q' ∧ (∀ {n len : Nat} {f : Nat → Nat → T}, t'.at q' = .s n len f → ∃ f', t2.at q' = .s n len f') ∧ VM.hd w' (H i) q' = VM.hd w (H i) q' := fun i q' m' t' h hq' hthr => by
    by_cases e : i = id
    · subst e
      obtain ⟨rfl, rfl⟩ := hr1.one _ _ _ _ _ h hid1
      have hn : ¬ thru q k c q' := fun ht => by
        have := pre_thru (n := n) ht
        simp [this] at hthr
      obtain ⟨g1, g2⟩ := put_at (y := y) hq hn hq'
      exact ⟨_, _, hnew, g1, g2, k2 q' hn hq'⟩
    · exact ⟨m', t', rts_setQ.2 (.inr ⟨e, h⟩), hq', fun h => ⟨_, h⟩, hd_frame hC (hr1.rd h) hq' (hoth i m' t' e h)⟩
  have hvr : ∀ {x v}, X.thr id (q ++ [(n, k, c)]) x = false → VR (rts L1) H w x v → VR (rts (setQ L1 id (q ++ [(n, k, c)]) (t.put q k c y))) H w' x v := fun hx h =>
    VR.leaves (C := fun x => X.thr id (q ++ [(n, k, c)]) x = false) (fun x v hl hx h => by
      cases x with
      | p i q' n' k' c' =>
        obtain ⟨m', t', h1, h2, ⟨l', f', h3, h4, h5⟩, h6⟩ := h
        obtain ⟨m2, t2, g1, g2, g3, g4⟩ := hleaf i q' m' t' h1 h2 hx
        obtain ⟨f2, g5⟩ := g3 h3
        exact ⟨m2, t2, g1, g2, ⟨l', f2, g5, h4, h5⟩, by rw [g4]; exact h6⟩
      | h i q' =>
        obtain ⟨m', t', h1, h2, ⟨n', l', f', h3⟩, h6⟩ := h
        obtain ⟨m2, t2, g1, g2, g3, g4⟩ := hleaf i q' m' t' h1 h2 hx
        obtain ⟨f2, g5⟩ := g3 h3
        exact ⟨m2, t2, g1, g2, ⟨n', l', f2, g5⟩, by rw [g4]; exact h6⟩
      | a i q' n' lo ln =>
        obtain ⟨m', t', h1, h2, ⟨l', f', h3, h4⟩, h6⟩ := h
        obtain ⟨m2, t2, g1, g2, g3, g4⟩ := hleaf i q' m' t' h1 h2 hx
        obtain ⟨f2, g5⟩ := g3 h3
        exact ⟨m2, t2, g1, g2, ⟨l', f2, g5, h4⟩, by rw [g4]; exact h6⟩
      | _ => exact hl.elim) (X.all_thr hx) h
  refine ⟨⟨?_, ?_, ?_, ?_, ?_, ?_, ?_, ?_⟩, hvr⟩
  · intro i m1 t1 m2 t2 h1 h2
    rcases hrt h1 with ⟨rfl, rfl, rfl⟩ | ⟨a1, b1⟩ <;> rcases hrt h2 with ⟨e, rfl, rfl⟩ | ⟨a2, b2⟩
    · exact ⟨rfl, rfl⟩
    · exact absurd rfl a2
    · exact absurd e a1
    · exact hr1.one _ _ _ _ _ b1 b2
  · intro i m1 t1 h1 hm1
    rcases hrt h1 with ⟨rfl, rfl, rfl⟩ | ⟨a1, b1⟩
    · simpa [updN] using k1
    · simp only [updN, a1, if_false]
      exact (hr1.own i m1 t1 b1 hm1).frame hC (hoth i m1 t1 a1 b1)
  · intro i t1 h1
    rcases hrt h1 with ⟨rfl, rfl, rfl⟩ | ⟨a1, b1⟩
    · exact absurd rfl hm
    · simp only [updN, a1, if_false]
      exact (hr1.ro i t1 b1).frame hC (hoth i _ t1 a1 b1)
  · intro i t1 h1 x y hg
    rcases hrt h1 with ⟨rfl, rfl, rfl⟩ | ⟨a1, b1⟩
    · exact absurd rfl hm
    · simp only [updN, a1, if_false] at hg
      exact Nat.lt_of_lt_of_le (hr1.rold i t1 b1 x y hg) hC.size
  · intro i t1 h1
    rcases hrt h1 with ⟨rfl, rfl, rfl⟩ | ⟨a1, b1⟩
    · obtain ⟨n', f', rfl⟩ := hr1.box _ _ hid1
      obtain ⟨f2, h2⟩ := box_put (n := n') (f := f') (q := q) (k := k) (c := c) (y := y)
      exact ⟨n', f2, h2⟩
    · exact hr1.box i t1 b1
  · intro i m1 t1 i' m2 t2 h1 h2 hne hm1 a p g1 g2
    rcases hrt h1 with ⟨rfl, rfl, rfl⟩ | ⟨a1, b1⟩ <;> rcases hrt h2 with ⟨rfl, rfl, rfl⟩ | ⟨a2, b2⟩
    · exact absurd rfl hne
    · simp only [updN, if_true, a2, if_false] at g1 g2
      rcases g1 with ⟨g1, _⟩ | g1
      · exact hr1.dis _ _ _ _ _ _ hid1 b2 hne hm1 a p g1 g2
      · rcases hGy a p g1 with h | h
        · exact hr1.dis _ _ _ _ _ _ hid1 b2 hne hm1 a p (e7 a p h) g2
        · exact h _ _ _ b2 g2
    · simp only [updN, if_true, a1, if_false] at g1 g2
      rcases g2 with ⟨g2, _⟩ | g2
      · exact hr1.dis _ _ _ _ _ _ hid1 b1 (Ne.symm hne) hm a p g2 g1
      · rcases hGy a p g2 with h | h
        · exact hr1.dis _ _ _ _ _ _ hid1 b1 (Ne.symm hne) hm a p (e7 a p h) g1
        · exact h _ _ _ b1 g1
    · simp only [updN, a1, a2, if_false] at g1 g2
      exact hr1.dis _ _ _ _ _ _ b1 b2 hne hm1 a p g1 g2
  · intro s x' h
    obtain ⟨g1, g2⟩ := setQ_sl h
    exact hvr g2 (hr1.sl s x' g1)
  · intro i c' x' h
    obtain ⟨g1, g2, g3⟩ := setQ_al h
    obtain ⟨n', f', h1, h2, A, v, h3, h4, h5⟩ := hr1.al i c' x' g1
    obtain ⟨b', o', rfl, hG⟩ := box_cell hr1 h1 h2 h3
    by_cases e : i = id
    · subst e
      obtain ⟨rfl, rfl⟩ := hr1.one _ _ _ _ _ h1 hid1
      obtain ⟨f2, hf2⟩ := box_put (n := n') (f := f') (q := q) (k := k) (c := c) (y := y)
      refine ⟨n', f2, by rw [← hf2]; exact hnew, h2, _, v, h3, ?_, hvr g2 h5⟩
      have hn : ¬ thru q k c [(n', 0, c')] := fun ht => by
        have h7 := pre_thru (n := n) ht
        have h8 := g3 rfl
        have : pre (q ++ [(n, k, c)]) [(n', 0, c')] = pre (q ++ [(n, k, c)]) [(0, 0, c')] := by
          cases q with
          | nil => simp [pre]
          | cons a q => obtain ⟨_, _, _⟩ := a; simp [pre]
        rw [this, h8] at h7; cases h7
      have hh := k2 [(n', 0, c')] hn ⟨rfl, by omega, h2, by simp [Okp]⟩
      have hH : ∃ hv, adr (H i) n' 0 c' = some ⟨b', o', none⟩ ∧ hv = H i := ⟨_, by
        obtain ⟨a0, l0, c0, e1, e2⟩ := adr_some h3
        rw [e1]; simp only [adr, Option.some.injEq]
        simp only [Nat.zero_mul, Nat.zero_add] at e2 ⊢
        exact e2.symm, rfl⟩
      obtain ⟨_, hA, _⟩ := hH
      simp only [VM.hd, hA, h4] at hh
      cases hw : w'.cell? ⟨b', o', none⟩ with
      | none => rw [hw] at hh; cases hh
      | some v' => rw [hw] at hh; simp only [VM.hd, Option.some.injEq] at hh; rw [hh]
    · exact ⟨n', f', rts_setQ.2 (.inr ⟨e, h1⟩), h2, _, v, h3, hC.cell h4 (hoth i _ _ e h1 _ _ hG), hvr g2 h5⟩
end
end Go.Proofs.Ytimmbmphfgnelaa.VM
namespace Go.Proofs.Ytimmbmphfgnelaa.VM
open Go Go.RowKit

theorem Chg.step {S S' : FP} {a b c : World} (h : Chg S a b) (k : Chg S' b c) (hs : ∀ x y, x < a.heap.size → S' x y → S x y) : Chg S a c :=
  ⟨k.os.trans h.os, k.tape.trans h.tape, k.output.trans h.output, Nat.le_trans h.size k.size, fun i cur e fr hi => by
    have hlt : i < a.heap.size := (Array.getElem?_eq_some_iff.1 hi).1
    obtain ⟨c1, h1, h2, h3⟩ := h.cells i cur e fr hi
    obtain ⟨c2, k1, k2, k3⟩ := k.cells i c1 e fr h1
    exact ⟨c2, k1, k2.trans h2, fun o ho => (k3 o fun hS => ho (hs i o hlt hS)).trans (h3 o ho)⟩, fun i o hi ho => k.other i o (h.other i o hi ho) ho⟩

/-- the state behind a store of x into one cell -/
def dropM (L : List E) : Option Nat → List E
  | some id => delR L id
  | none => L
def menM : Option Nat → X → Bool
  | some id, x => X.men id x
  | none, _ => false
def stL (L : List E) (id : Nat) (t : T) (q : Path) (n k c : Nat) (s : T × Option Nat) : List E := setQ (dropM L s.2) id (q ++ [(n, k, c)]) (t.put q k c s.1)

section
variable {L : List E} {val : Nat → Value} {H : Nat → Value} {G : Nat → FP} {w w' : World} {cx : Cx}
theorem cell_store (hr : Rp L val H G w) (hG : Good cx L H G) (hch : Chg cx.S0 cx.w0 w) {id : Nat} {m : M} {t : T} (hm : m ≠ .ro) (hid : rts L id m t) {q : Path} (hq : Okp t q) {n len : Nat} {f : Nat → Nat → T} (ht : t.at q = .s n len f) {k c : Nat} (hk : k < len) (hc : c < n)
    {z : T} {x : X} {v : Value} (hz : zpos [z] = true) (hv : VR (rts L) H w x v) (hx : x.one = true) (hne : (srcT L z x).2 ≠ some id) :
    ∃ (h' : Value) (b o sz : Nat) (G' : Nat → FP), VM.hd w (H id) q = some h' ∧ adr h' n k c = some ⟨b, o, none⟩ ∧ Kd w b sz ∧ o < sz ∧ Rp (stL L id t q n k c (srcT L z x)) val H G' (w.setCell ⟨b, o, none⟩ v) ∧ Good cx (stL L id t q n k c (srcT L z x)) H G' ∧ Chg cx.S0 cx.w0 (w.setCell ⟨b, o, none⟩ v) ∧
      rts (stL L id t q n k c (srcT L z x)) id m (t.put q k c (srcT L z x).1) ∧
      ∀ {y u}, menM (srcT L z x).2 y = false → X.thr id (q ++ [(n, k, c)]) y = false → VR (rts L) H w y u → VR (rts (stL L id t q n k c (srcT L z x))) H (w.setCell ⟨b, o, none⟩ v) y u := by
  obtain ⟨h', b, o, xo, Gx, e1, e2, e3, e4, ⟨sz, e5⟩, e6, e7, e8, e9⟩ := hr.store hm hid hq ht hk hc
  obtain ⟨s1, s2⟩ := srcT_ok hr hz hv hx
  generalize srcT L z x = s at s1 s2 hne
  obtain ⟨y, mv⟩ := s
  simp only at s1 s2 hne
  have hlt : o < sz := by
    obtain ⟨cur, e, k1, k2⟩ := e5
    simp only [World.cell?, k1] at e3
    rw [← k2]
    rcases Nat.lt_or_ge o cur.size with h | h
    · exact h
    · simp [h] at e3
  have hC : Chg (fun a p => a = b ∧ p = o) w (w.setCell ⟨b, o, none⟩ v) := Chg.setCell ⟨rfl, rfl⟩
  have hcell : (w.setCell ⟨b, o, none⟩ v).cell? ⟨b, o, none⟩ = some v := World.cell?_setCell_same w _ v e3
  have hr1 : Rp (dropM L mv) val H G w := by
    cases mv with
    | none => exact hr
    | some i => exact hr.delR i
  have hsub : ∀ i m t, rts (dropM L mv) i m t → rts L i m t := fun i m t h => by
    cases mv with
    | none => exact h
    | some i => exact (rts_delR.1 h).1
  have hid1 : rts (dropM L mv) id m t := by
    cases mv with
    | none => exact hid
    | some i => exact rts_delR.2 ⟨hid, fun e => hne (by rw [e])⟩
  have hGy : ∀ a p, fpOf G mv a p → Gx a p ∨ ∀ i m t, rts (dropM L mv) i m t → ¬ G i a p := fun a p h => by
    cases mv with
    | none => exact h.elim
    | some i =>
      obtain ⟨t', ht'⟩ := s2 i rfl
      exact .inr fun j m2 t2 hj hg => hr.dis i .row t' j m2 t2 ht' (rts_delR.1 hj).1 (fun e => (rts_delR.1 hj).2 e.symm) (by simp) a p h hg
  have hyw : Own (w.setCell ⟨b, o, none⟩ v) y (fpOf G mv) v := s1.frame hC fun a p hf ⟨ha, hp⟩ => by
    subst ha hp
    cases mv with
    | none => exact hf.elim
    | some i =>
      obtain ⟨t', ht'⟩ := s2 i rfl
      exact hr.dis i .row t' id m t ht' hid (fun e => hne (by rw [e])) (by simp) _ _ hf e6
  obtain ⟨r1, r2⟩ := e9 hr1 hid1 hsub hC (fun a p h => .inl h) hcell hyw hGy
  have hS0 : cx.S0 b o ∨ cx.w0.heap.size ≤ b := hG.1 id m t hid hm b o e6
  refine ⟨h', b, o, sz, _, e1, e2, e5, hlt, r1, ⟨?_, ?_⟩, hch.step hC fun a p ha ⟨h1, h2⟩ => ?_, rts_setQ.2 (.inl ⟨rfl, rfl, t, hid1⟩), fun {y' u} h1 h2 h3 => r2 h2 ?_⟩
  · intro i m1 t1 h1 h2 a p h3
    rcases rts_setQ.1 h1 with ⟨rfl, rfl, t0, h4⟩ | ⟨h4, h5⟩
    · simp only [updN, if_true] at h3
      rcases h3 with ⟨h3, _⟩ | h3
      · exact hG.1 _ _ _ hid hm a p h3
      · cases mv with
        | none => exact h3.elim
        | some j =>
          obtain ⟨t', ht'⟩ := s2 j rfl
          exact hG.1 j _ _ ht' (by simp) a p h3
    · simp only [updN, h4, if_false] at h3
      exact hG.1 i m1 t1 (hsub _ _ _ h5) h2 a p h3
  · intro i m1 t1 h0 h1
    rcases rts_setQ.1 h1 with ⟨rfl, rfl, t0, h4⟩ | ⟨h4, h5⟩
    · exact hG.2 _ _ _ h0 hid
    · exact hG.2 i m1 t1 h0 (hsub _ _ _ h5)
  · subst h1 h2
    exact hS0.resolve_right (by omega)
  · cases mv with
    | none => exact h3
    | some i => exact h3.drop (d := i) (fun j m2 t2 hj h => ⟨rts_delR.2 ⟨h, hj⟩, rfl⟩) h1
end
end Go.Proofs.Ytimmbmphfgnelaa.VM
namespace Go.Proofs.Ytimmbmphfgnelaa.VM
open Go Go.RowKit

theorem not_thru_self {q : Path} {k c : Nat} : ¬ thru q k c q := fun ⟨n, s, h⟩ => by
  have := congrArg List.length h
  simp at this
theorem pre_self : ∀ {q : Path} {n k c : Nat}, pre (q ++ [(n, k, c)]) q = false
  | [], _, _, _ => rfl
  | (a, b, d) :: q, n, k, c => by simp [pre, pre_self (q := q)]
def neM : Option Nat → Nat → Bool
  | some i, id => !(Nat.beq i id)
  | none, _ => true
def stOk (id : Nat) (q : Path) (n k c : Nat) (z : T) (x : X) (xs : List X) (s : T × Option Nat) : Bool := x.one && neM s.2 id && zpos [z] && xs.all (fun y => !menM s.2 y && !X.thr id (q ++ [(n, k, c)]) y)
def stCells (id : Nat) (q : Path) (n k : Nat) : Nat → List T → List X → List E → T → Option (List E)
  | c, z :: zs, x :: xs, L, t =>
    if stOk id q n k c z x xs (srcT L z x) = true then
      stCells id q n k (c + 1) zs xs (stL L id t q n k c (srcT L z x)) (t.put q k c (srcT L z x).1)
    else none
  | _, [], [], L, _ => some L
  | _, _, _, _, _ => none

section
variable {L : List E} {val : Nat → Value} {H : Nat → Value} {G : Nat → FP} {w w' : World} {cx : Cx} {P : Program}
theorem run_store1 {b o sz : Nat} {v : Value} (hk : Kd w b sz) (ho : o < sz) (hv : v.oneCell' = true) : (store ⟨b, o, none⟩ v).run P w = .ok () (w.setCell ⟨b, o, none⟩ v) := by
  rw [run_store P w _ v .plain hv]
  obtain ⟨x, hx⟩ := Option.isSome_iff_exists.1 (hk.cell ho)
  simp [hx, hk.frozen o]
theorem cells_store {id : Nat} {m : M} (hm : m ≠ .ro) {q : Path} {n k len b o : Nat} (hkl : k < len) : ∀ (zs : List T) (xs : List X) (vs : List Value) (c i : Nat) (L : List E) (t : T) (G : Nat → FP) (w : World) {L' : List E}, Rp L val H G w → Good cx L H G → Chg cx.S0 cx.w0 w → rts L id m t → Okp t q → (∃ f, t.at q = .s n len f) → c + zs.length ≤ n →
    VR (rts L) H w (.p id q n k 0) (.pointer (some ⟨b, o, none⟩)) → VRs (rts L) H w xs vs → stCells id q n k c zs xs L t = some L' → i = c →
    ∃ w' G', (storeCells ⟨b, o, none⟩ vs i).run P w = .ok () w' ∧ Rp L' val H G' w' ∧ Good cx L' H G' ∧ Chg cx.S0 cx.w0 w'
  | [], [], [], c, i, L, t, G, w, L', hr, hG, hch, _, _, _, _, _, _, e, _ => by
    simp only [stCells, Option.some.injEq] at e; subst e
    exact ⟨w, G, rfl, hr, hG, hch⟩
  | z :: zs, x :: xs, v :: vs, c, i, L, t, G, w, L', hr, hG, hch, hid, hq, ⟨f, ht⟩, hc, hp, ⟨hv, hvs⟩, e, hi => by
    subst hi
    rw [stCells] at e
    split at e
    · rename_i hcond
      simp only [stOk, Bool.and_eq_true] at hcond
      obtain ⟨⟨⟨c1, c2⟩, c3⟩, c4⟩ := hcond
      simp only [List.length_cons] at hc
      have hne : (srcT L z x).2 ≠ some id := by
        intro h; rw [h] at c2; simp [neM, Nat.beq_refl] at c2
      obtain ⟨h', b', o', sz, G', e1, e2, e3, e4, e5, e6, e7, e8, e9⟩ := cell_store hr hG hch hm hid hq ht hkl (by omega : i < n) c3 hv c1 hne
      have hadr : b' = b ∧ o' = o + i := by
        obtain ⟨m1, t1, g1, g2, ⟨l1, f1, g3, g4, g5⟩, hv', A, g6, g7, g8⟩ := hp
        rw [e1] at g6; cases g6
        obtain ⟨a0, l0, c0, k1, k2⟩ := adr_some g7
        cases g8
        rw [k1] at e2
        simp only [adr, Option.some.injEq, Addr.mk.injEq] at e2
        simp only [Addr.mk.injEq] at k2
        omega
      obtain ⟨rfl, rfl⟩ := hadr
      have hmen : menM (srcT L z x).2 (.p id q n k 0) = false := by
        generalize (srcT L z x).2 = o at hne
        cases o with
        | none => rfl
        | some j =>
          simp only [menM, X.men, beq_eq_false_iff_ne]
          exact fun h => hne (by rw [h])
      have hp' := e9 (y := .p id q n k 0) hmen (by simp [X.thr, pre_self]) hp
      have hvs' : VRs (rts (stL L id t q n k i (srcT L z x))) H (w.setCell ⟨b', o + i, none⟩ v) xs vs := by
        clear e
        induction xs generalizing vs with
        | nil => cases vs with
          | nil => trivial
          | cons _ _ => exact hvs.elim
        | cons y ys ih =>
          cases vs with
          | nil => exact hvs.elim
          | cons u us =>
            simp only [List.all_cons, Bool.and_eq_true, Bool.not_eq_true'] at c4
            exact ⟨e9 c4.1.1 c4.1.2 hvs.1, ih us hvs.2 c4.2⟩
      obtain ⟨g1, g2⟩ := put_at (y := (srcT L z x).1) (k := k) (c := i) hq not_thru_self hq
      obtain ⟨w', G2, r1, r2, r3, r4⟩ := cells_store hm hkl zs xs vs (i + 1) (i + 1) _ _ G' _ e5 e6 e7 e8 g1 (g2 ht) (by omega) hp' hvs' e rfl
      refine ⟨w', G2, ?_, r2, r3, r4⟩
      have hone := hr.ones x v hv c1
      have hs : (store ((⟨b', o, none⟩ : Addr).add i) v).run P w = .ok () (w.setCell ⟨b', o + i, none⟩ v) := by
        rw [Addr.add_lit]; exact run_store1 e3 e4 hone
      simp only [storeCells, Sem.run_bind, hs, Result.andThen]
      exact r1
    · exact absurd e (by simp)
  | [], [], _ :: _, _, _, _, _, _, _, _, _, _, _, _, _, _, _, _, h, _, _ => h.elim
  | _, _ :: _, [], _, _, _, _, _, _, _, _, _, _, _, _, _, _, _, h, _, _ => h.elim
  | [], _ :: _, _, _, _, _, _, _, _, _, _, _, _, _, _, _, _, _, _, e, _ => by simp [stCells] at e
  | _ :: _, [], _, _, _, _, _, _, _, _, _, _, _, _, _, _, _, _, _, e, _ => by simp [stCells] at e
end

section
variable {P : Program} {N : Nat} {Q : Exit → List E → Prop} {L : List E} {ops : Array Oper} {rest : List Oper} {dst : Option Tmp} {ty : TypeId} {pos : String} {af : Array Edge} {g : Option (Nat × Bool)} {d : Nat}
theorem Stp.store {t : TypeId} {x y : Operand} {zt : List T} [hTy : TyI P t zt] {id : Nat} {q : Path} {n k c len : Nat} {f : Nat → Nat → T} {m : M} {T0 : T} {L' : List E} (hx : evX L x = .p id q n k c) (hR : rootL L id = some (m, T0)) (hm : m ≠ .ro) (hT : T0.at q = .s n len f)
    (hf : (evX L y).flat = true) (hl : (evX L y).leaves.length = zt.length) (hc : c + zt.length ≤ n) (hst : stCells id q n k c zt (evX L y).leaves L T0 = some L') : Stp P N ⟨none, .store t x y, ty, pos, af, g⟩ L L' :=
  Stp.opu (fun cx a w hs => by
    obtain ⟨H, G, hr, hG⟩ := hs.rp
    have hv := ev_ok hr x
    rw [hx] at hv
    obtain ⟨m', t', g1, g2, ⟨l', f', g3, g4, g5⟩, hv', A, g6, g7, g8⟩ := hv
    obtain ⟨rfl, rfl⟩ := hr.one _ _ _ _ _ g1 (rootL_mem hR)
    rw [hT] at g3; cases g3
    have hy := (ev_ok hr y).cells hr.ones hf
    have hyl := hy.len
    simp only [Array.length_toList] at hyl
    obtain ⟨a0, l0, c0, k1, k2⟩ := adr_some g7
    -- the row's first cell
    have hp : VR (rts L) H w (.p id q n k 0) (.pointer (some ⟨a0.block, a0.off + k * n, none⟩)) :=
      ⟨m', t', g1, g2, ⟨len, f, hT, g4, by omega⟩, hv', _, g6, by rw [k1]; simp [adr], rfl⟩
    obtain ⟨w', G', r1, r2, r3, r4⟩ := cells_store (P := P) (b := a0.block) (o := a0.off + k * n) hm g4 zt _ _ c c L t' G w hr hG hs.chg g1 g2 ⟨f, hT⟩ hc hp hy hst rfl
    refine ⟨w', ?_, ⟨hs.siz, hs.dfr, r4, H, G', r2, r3⟩⟩
    have hsz : (a.eval y).cells.size = zt.length := by omega
    have hA : ∀ (vs : List Value) (i : Nat) (w : World), (storeCells A vs i).run P w = (storeCells ⟨a0.block, a0.off + k * n, none⟩ vs (c + i)).run P w := by
      intro vs
      induction vs with
      | nil => intro i w; rfl
      | cons u us ih =>
        intro i w
        have hadd : A.add i = (⟨a0.block, a0.off + k * n, none⟩ : Addr).add (c + i) := by
          rw [k2, Addr.add_lit, Addr.add_lit]; congr 1; omega
        simp only [storeCells, Sem.run_bind, hadd]
        congr 1
        funext u w
        rw [ih (i + 1) w]
        congr 2
    have := hA (a.eval y).cells.toList 0 w
    rw [Nat.add_zero, r1] at this
    simp [execOp, g8, Instr.storeAt, Instr.sureAddr, storeVar, hTy.size w, hsz, this])
end
end Go.Proofs.Ytimmbmphfgnelaa.VM
namespace Go.Proofs.Ytimmbmphfgnelaa.VM
open Go Go.RowKit

def splitLast : Path → Option (Path × (Nat × Nat × Nat))
  | [] => none
  | [a] => some ([], a)
  | a :: q => match splitLast q with
    | some (r, b) => some (a :: r, b)
    | none => none
theorem splitLast_eq : ∀ {q r : Path} {b : Nat × Nat × Nat}, splitLast q = some (r, b) → q = r ++ [b]
  | [a], r, b, h => by simp only [splitLast, Option.some.injEq, Prod.mk.injEq] at h; obtain ⟨rfl, rfl⟩ := h; rfl
  | a :: a' :: q, r, b, h => by
    simp only [splitLast] at h
    split at h
    · rename_i r' b' hq
      cases h
      have := splitLast_eq hq
      rw [this]; rfl
    · cases h
/-- a slice of the call's own is taken out of where it lies -/
def takeX (L : List E) (n : Nat) : X → Option (List E × T)
  | .v y => match y with
    | .slice none 0 0 => some (L, .s n 0 fun _ _ => .j)
    | _ => none
  | .h id q => match rootL L id with
    | some (m, t) => match q with
      | [] => match m with
        | .row => some (delR L id, t)
        | _ => none
      | a :: q' => match m with
        | .ro => none
        | _ => match splitLast (a :: q') with
          | some (r, (_, k, c)) => some (setQ L id (a :: q') (t.put r k c .j), t.at (a :: q'))
          | none => none
    | none => none
  | _ => none
/-- what speaks of it is lost -/
def lostX : X → X → Bool
  | .h id q, y => match q with
    | [] => X.men id y
    | q => X.thr id q y
  | _, _ => false

section
variable {L : List E} {val : Nat → Value} {H : Nat → Value} {G : Nat → FP} {w w' : World} {cx : Cx} {P : Program} {N : Nat} {a : Act}
theorem okp_split : ∀ {r : Path} {t : T} {n k c : Nat}, Okp t (r ++ [(n, k, c)]) → Okp t r ∧ ∃ len f, t.at r = .s n len f ∧ k < len ∧ c < n
  | [], .s n1 l1 f1, n, k, c, ⟨h1, h2, h3, _⟩ => ⟨by simp [Okp], l1, f1, by simp only [T.at]; rw [h1], h2, by rw [h1]; exact h3⟩
  | (n0, k0, c0) :: r, .s n1 l1 f1, n, k, c, ⟨h1, h2, h3, h4⟩ => by
    obtain ⟨g1, l, f, g2, g3, g4⟩ := okp_split h4
    exact ⟨⟨h1, h2, h3, g1⟩, l, f, by simpa only [T.at] using g2, g3, g4⟩
  | [], .v _, _, _, _, h => h.elim
  | [], .j, _, _, _, h => h.elim
  | _ :: _, .v _, _, _, _, h => h.elim
  | _ :: _, .j, _, _, _, h => h.elim

theorem take_ok (hr : Rp L val H G w) (hG : Good cx L H G) {n : Nat} (hn : 0 < n) {s : X} {v : Value} (hv : VR (rts L) H w s v) {L1 : List E} {t1 : T} (h : takeX L n s = some (L1, t1)) :
    ∃ (G1 : Nat → FP) (F : FP), Rp L1 val H G1 w ∧ Good cx L1 H G1 ∧ Own w t1 F v ∧ (∀ i m t, rts L1 i m t → ∀ a o, G1 i a o → F a o → False) ∧ (∀ a o, F a o → cx.S0 a o ∨ cx.w0.heap.size ≤ a) ∧
      (∀ y u, lostX s y = false → VR (rts L) H w y u → VR (rts L1) H w y u) ∧ (∀ a o, F a o → ∃ i m t, rts L i m t ∧ m ≠ .ro ∧ G i a o) ∧ (∀ i m t, rts L1 i m t → (∃ t0, rts L i m t0) ∧ ∀ a o, G1 i a o → G i a o) := by
  cases s with
  | v y =>
    simp only [takeX] at h
    split at h
    · cases h
      have hv : v = .slice none 0 0 := hv
      subst hv
      exact ⟨G, fun _ _ => False, hr, hG, ZC.own (t := .s n 0 fun _ _ => .j) ⟨hn, rfl, rfl⟩, fun _ _ _ _ _ _ _ h => h, fun _ _ h => h.elim, fun _ _ _ h => h, fun _ _ h => h.elim, fun i m t h => ⟨⟨t, h⟩, fun _ _ h => h⟩⟩
    · cases h
  | h id q =>
    simp only [takeX] at h
    split at h
    · rename_i m t hR
      have hR := rootL_mem hR
      cases q with
      | nil =>
        simp only at h
        split at h
        · cases h
          obtain ⟨m', t', g1, g2, g3, g4⟩ := hv
          simp only [VM.hd, Option.some.injEq] at g4
          subst g4
          refine ⟨G, G id, hr.delR id, Good.sub hG fun _ _ _ h => (rts_delR.1 h).1, hr.own id .row _ hR (by simp), fun i m t h a o h1 h2 => ?_, hG.1 id _ _ hR (by simp), fun y u h1 h2 => ?_, fun a o h => ⟨id, _, _, hR, by simp, h⟩, fun i m t h => ⟨⟨t, (rts_delR.1 h).1⟩, fun _ _ h => h⟩⟩
          · obtain ⟨e1, e2⟩ := rts_delR.1 h
            exact hr.dis id .row _ i m t hR e1 (Ne.symm e2) (by simp) a o h2 h1
          · exact h2.drop (d := id) (fun j m2 t2 hj h => ⟨rts_delR.2 ⟨h, hj⟩, rfl⟩) h1
        · cases h
      | cons b q' =>
        simp only at h
        split at h
        · cases h
        · rename_i hm
          split at h
          · rename_i r n0 k c hsp
            cases h
            have hq := splitLast_eq hsp
            obtain ⟨m', t', g1, g2, ⟨n1, l1, f1, g3⟩, g4⟩ := hv
            obtain ⟨rfl, rfl⟩ := hr.one _ _ _ _ _ g1 hR
            have hlost : ∀ y, lostX (.h id (b :: q')) y = X.thr id (r ++ [(n0, k, c)]) y := fun y => by simp only [lostX]; rw [hq]
            simp only [hlost]
            rw [hq] at g2 g3 g4 ⊢
            obtain ⟨k1, len, f, k2, k3, k4⟩ := okp_split g2
            have hm' : m' ≠ .ro := fun e => hm (by rw [e])
            obtain ⟨h', b', o, x, Gx, e1, e2, e3, e4, ⟨sz, e5⟩, e6, e7, e8, e9⟩ := hr.store hm' hR k1 k2 k3 k4
            have hvx : v = x := by
              have := hd_snoc e1 e2 e3
              rw [g4] at this; cases this; rfl
            subst hvx
            obtain ⟨r1, r2⟩ := e9 (L1 := L) (w' := w) (S := fun _ _ => False) (y := .j) (x' := v) (Gy := fun _ _ => False) hr hR (fun _ _ _ h => h) (Chg.refl _ _) (fun _ _ h => h.elim) e3 ⟨e4.one, fun _ _ h => h⟩ (fun _ _ h => h.elim)
            have hf : f k c = t'.at (r ++ [(n0, k, c)]) := (at_snoc k2).symm
            rw [hf] at e4
            refine ⟨_, Gx, r1, ⟨?_, ?_⟩, e4, ?_, fun a o h => hG.1 id m' t' hR hm' a o (e7 a o h), fun y u h1 h2 => ?_, fun a o h => ⟨id, m', t', hR, hm', e7 a o h⟩, fun i m t h => ?_⟩
            · intro i m t h1 h2 a p h3
              rcases rts_setQ.1 h1 with ⟨rfl, rfl, t0, h4⟩ | ⟨h4, h5⟩
              · simp only [updN, if_true] at h3
                rcases h3 with ⟨h3, _⟩ | h3
                · exact hG.1 _ _ _ hR hm' a p h3
                · exact h3.elim
              · simp only [updN, h4, if_false] at h3
                exact hG.1 i m t h5 h2 a p h3
            · intro i m t h0 h1
              rcases rts_setQ.1 h1 with ⟨rfl, rfl, t0, h4⟩ | ⟨h4, h5⟩
              · exact hG.2 _ _ _ h0 hR
              · exact hG.2 i m t h0 h5
            · intro i m t h1 a p h3 h6
              rcases rts_setQ.1 h1 with ⟨rfl, rfl, t0, h4⟩ | ⟨h4, h5⟩
              · simp only [updN, if_true] at h3
                rcases h3 with ⟨_, h3⟩ | h3
                · exact h3 h6
                · exact h3
              · simp only [updN, h4, if_false] at h3
                exact hr.dis id m' t' i m t hR h5 (Ne.symm h4) hm' a p (e7 a p h6) h3
            · exact r2 h1 h2
            · rcases rts_setQ.1 h with ⟨rfl, rfl, t0, h4⟩ | ⟨h4, h5⟩
              · refine ⟨⟨_, h4⟩, fun a p h3 => ?_⟩
                simp only [updN, if_true] at h3
                rcases h3 with ⟨h3, _⟩ | h3
                · exact h3
                · exact h3.elim
              · refine ⟨⟨_, h5⟩, fun a p h3 => ?_⟩
                simp only [updN, h4, if_false] at h3
                exact h3
          · cases h
    · cases h
  | _ => simp [takeX] at h

/-- a new root, where the world has turned only in what was taken -/
theorem Sat.newS {L1 : List E} {S : FP} (hs : Sat N cx L a w) {G1 : Nat → FP} (hr1 : Rp L1 (Act.val a) H G1 w) (hG : Good cx L1 H G1) (hC : Chg S w w') (hS : ∀ i m t, rts L1 i m t → ∀ a o, G1 i a o → ¬ S a o) (hS0 : ∀ a o, S a o → cx.S0 a o ∨ cx.w0.heap.size ≤ a) {d : Nat} (hN : d < N) (hb : d < base) {m : M} {t : T} {F : FP} {h : Value} (hm : m ≠ .ro) (hO : Own w' t F h) (hbx : m = .box → ∃ n f, t = .s n 1 f)
    (hF1 : ∀ id m t, id ≠ d → rts L1 id m t → ∀ a o, G1 id a o → F a o → False) (hF2 : ∀ a o, F a o → cx.S0 a o ∨ cx.w0.heap.size ≤ a) {x : X} {v : Value} (hx : VR (rts (.rt d m t :: delR L1 d)) (updN H d h) w' x v) :
    Sat N cx (putL (.rt d m t :: delR L1 d) d x) (Go.Act.put a (some d) v) w' := by
  have h1 := (hr1.chg hC hS).new d hm hO hbx hF1
  refine ⟨by simpa [Go.Act.put] using hs.siz, by simpa [Go.Act.put] using hs.dfr, hs.chg.step hC fun x y hx hy => (hS0 x y hy).resolve_right (by omega), updN H d h, updN G1 d F, (h1.put hx).val fun t => (Act.val_put (Nat.lt_of_lt_of_le hN hs.siz) t).symm, ?_, ?_⟩
  · rw [rts_put]
    intro id m' t' k1 k2 x y k3
    by_cases e : id = d
    · subst e
      simp only [updN, if_true] at k3
      exact hF2 x y k3
    · simp only [updN, e, if_false] at k3
      rcases List.mem_cons.1 k1 with k1 | k1
      · cases k1; exact absurd rfl e
      · exact hG.1 id m' t' (rts_delR.1 k1).1 k2 x y k3
  · rw [rts_put]
    intro id m' t' k0 k1
    have e : id ≠ d := by omega
    simp only [updN, e, if_false]
    rcases List.mem_cons.1 k1 with k1 | k1
    · cases k1; exact absurd rfl e
    · exact hG.2 id m' t' k0 (rts_delR.1 k1).1

/-- what a copied element's cell holds -/
def flatT : T → T
  | .v y => .v y
  | _ => .j
theorem Rd.flat {t : T} {F : FP} {c : Value} (h : Rd w t F c) : Own w (flatT t) (fun _ _ => False) c := by
  cases t with
  | v y => exact ⟨h.1, h.2, fun _ _ h => h⟩
  | j => exact ⟨h, fun _ _ h => h⟩
  | s n len f => obtain ⟨_, a, cap, h, _⟩ := h; exact ⟨by rw [h]; rfl, fun _ _ h => h⟩
theorem Rd.src {tx e : TypeId} {n m : Nat} {g : Nat → Nat → T} {F : FP} {v : Value} (h : Rd w (.s n m g) F v) (hS : SlI P tx e) : ∃ news, Src P n tx v m news w ∧ ∀ k c, k < m → c < n → ∃ x, news[k * n + c]? = some x ∧ Own w (flatT (g k c)) (fun _ _ => False) x := by
  obtain ⟨hn, a, cap, rfl, hl, hm, b, off, V, G, h1, h2⟩ := h
  by_cases hm0 : m = 0
  · subst hm0
    refine ⟨[], ?_, fun k c hk => by omega⟩
    cases a with
    | none => exact Src.ofNil (P := P) w hS.sl cap
    | some a => exact Src.ofSlice (P := P) w hS.sl a 0 cap [] (by simp) (by simp) (by simp)
  · have ha := h1 (by omega)
    subst ha
    refine ⟨(List.range (m * n)).map fun j => V (j / n) (j % n), Src.ofSlice (P := P) w hS.sl _ m cap _ (by simp) (fun j u hj => ?_) (fun u hu => ?_), fun k c hk hc => ?_⟩
    · simp only [List.getElem?_map] at hj
      have hlt : j < m * n := by
        rcases Nat.lt_or_ge j (m * n) with h | h
        · exact h
        · rw [List.getElem?_eq_none (by simpa using h)] at hj; cases hj
      rw [List.getElem?_range hlt] at hj
      simp only [Option.map_some, Option.some.injEq] at hj
      rw [← hj, Addr.add_lit]
      have := (h2 (j / n) (j % n) ((Nat.div_lt_iff_lt_mul hn).2 hlt) (Nat.mod_lt _ hn)).1
      rwa [show j / n * n + j % n = j by rw [Nat.mul_comm]; exact Nat.div_add_mod j n] at this
    · obtain ⟨j, hj, rfl⟩ := List.mem_map.1 hu
      have hlt : j < m * n := List.mem_range.1 hj
      exact ((h2 (j / n) (j % n) ((Nat.div_lt_iff_lt_mul hn).2 hlt) (Nat.mod_lt _ hn)).2.1.flat).one
    · have hlt := row_lt (Nat.le_refl m) hk hc
      refine ⟨V k c, ?_, (h2 k c hk hc).2.1.flat⟩
      simp only [List.getElem?_map, List.getElem?_range hlt, Option.map_some]
      rw [show (k * n + c) / n = k by rw [Nat.mul_comm, Nat.mul_add_div hn, Nat.div_eq_of_lt hc]; rfl, show (k * n + c) % n = c by rw [Nat.mul_comm, Nat.mul_add_mod, Nat.mod_eq_of_lt hc]]
theorem Own.src {tx e : TypeId} {n m : Nat} {g : Nat → Nat → T} {F : FP} {v : Value} (h : Own w (.s n m g) F v) (hS : SlI P tx e) : ∃ (news : List Value) (Gn : Nat → Nat → FP), Src P n tx v m news w ∧ (∀ k c, k < m → c < n → ∃ x, news[k * n + c]? = some x ∧ Own w (g k c) (Gn k c) x) ∧
    (∀ k c k' c', (k ≠ k' ∨ c ≠ c') → k < m → c < n → k' < m → c' < n → ∀ x y, Gn k c x y → Gn k' c' x y → False) ∧ ∀ k c, k < m → c < n → ∀ x y, Gn k c x y → F x y := by
  obtain ⟨news, h1, h2⟩ := h.rd.src hS
  obtain ⟨hn, a, cap, rfl, hl, hm, b, off, V, G, g1, g2, g3, g4, g5⟩ := h
  refine ⟨news, G, h1, fun k c hk hc => ?_, g3, fun k c hk hc x y h => (g5 x y).2 (.inr ⟨k, c, hk, hc, h⟩)⟩
  obtain ⟨x, e1, e2⟩ := h2 k c hk hc
  refine ⟨x, e1, ?_⟩
  have ha := (g1 (by omega)).1
  subst ha
  have hc' := h1.cells
  obtain ⟨cs, hcs⟩ : ∃ cs, cs = (List.range (m * n)).map fun j => V (j / n) (j % n) := ⟨_, rfl⟩
  have hf := run_firstCells_some (P := P) w n m ⟨b, off, none⟩ m cap cs (by rw [hcs]; simp) (fun j u hj => by
    rw [hcs, List.getElem?_map] at hj
    have hlt : j < m * n := by
      rcases Nat.lt_or_ge j (m * n) with h | h
      · exact h
      · rw [List.getElem?_eq_none (by simpa using h)] at hj; cases hj
    rw [List.getElem?_range hlt] at hj
    simp only [Option.map_some, Option.some.injEq] at hj
    rw [← hj, Addr.add_lit]
    have := (g2 (j / n) (j % n) ((Nat.div_lt_iff_lt_mul hn).2 hlt) (Nat.mod_lt _ hn)).1
    rwa [show j / n * n + j % n = j by rw [Nat.mul_comm]; exact Nat.div_add_mod j n] at this)
  rw [hf] at hc'
  simp only [Result.ok.injEq, and_true] at hc'
  have hcn : cs = news := by simpa using congrArg Array.toList hc'
  have hlt := row_lt (Nat.le_refl m) hk hc
  rw [← hcn, hcs, List.getElem?_map, List.getElem?_range hlt] at e1
  simp only [Option.map_some, Option.some.injEq] at e1
  rw [show (k * n + c) / n = k by rw [Nat.mul_comm, Nat.mul_add_div hn, Nat.div_eq_of_lt hc]; rfl, show (k * n + c) % n = c by rw [Nat.mul_comm, Nat.mul_add_mod, Nat.mod_eq_of_lt hc]] at e1
  rw [← e1]
  exact (g2 k c hk hc).2
end
end Go.Proofs.Ytimmbmphfgnelaa.VM
namespace Go.Proofs.Ytimmbmphfgnelaa.VM
open Go Go.RowKit

def appT (n len : Nat) (f : Nat → Nat → T) (m : Nat) (g : Nat → Nat → T) : T := .s n (len + m) fun k c => if k < len then f k c else g (k - len) c
section
variable {P : Program} {N : Nat} {Q : Exit → List E → Prop} {L : List E} {ops : Array Oper} {rest : List Oper} {dst : Option Tmp} {ty : TypeId} {pos : String} {af : Array Edge} {gd : Option (Nat × Bool)} {d : Nat}
theorem VR.newRow {R : RT} {H : Nat → Value} {w : World} {d n len : Nat} {f : Nat → Nat → T} (h : R d .row (.s n len f)) : VR R H w (.h d []) (H d) := VR.root h

theorem VR.here {H : Nat → Value} {w : World} {n len : Nat} {f : Nat → Nat → T} {v : Value} {L : List E} : VR (rts (.rt d .row (.s n len f) :: L)) (updN H d v) w (.h d []) v := by
  have := VR.newRow (R := rts (.rt d .row (.s n len f) :: L)) (H := updN H d v) (w := w) (d := d) (n := n) (len := len) (f := f) (List.mem_cons_self ..)
  simpa [updN] using this
theorem run_append {t tx : TypeId} {s x : Operand} {a : Act} {w w' : World} {v : Value} (h : (Builtin.append_ #[t, tx] ty #[a.eval s, a.eval x]).run P w = .ok v w') :
    (execOp a.eval ⟨dst, .call { callee := .builtin .append, args := #[s, x], argTypes := #[t, tx] }, ty, pos, af, gd⟩).run P w = .ok (.value v) w' := by
  simp [execOp, resolve, invoke, builtin, h]

/-- append of a row of the call's own: its elements go along -/
theorem Stp.appendM {t tx e : TypeId} {s x : Operand} {zt : List T} [hS : SlI P t e] [hSx : SlI P tx e] [hT : TyI P e zt] {L1 L2 : List E} {len m : Nat} {f g : Nat → Nat → T} (hd : dst = some d) (hN : d < N) (hb : d < base)
    (h1 : takeX L zt.length (evX L s) = some (L1, .s zt.length len f)) (hlost : lostX (evX L s) (evX L x) = false) (h2 : takeX L1 zt.length (evX L x) = some (L2, .s zt.length m g)) (hbig : len + m ≤ 4194304) : Stp P N ⟨dst, .call { callee := .builtin .append, args := #[s, x], argTypes := #[t, tx] }, ty, pos, af, gd⟩ L (putL (.rt d .row (appT zt.length len f m g) :: delR L2 d) d (.h d [])) :=
  Stp.op (fun cx a w hs => by
    obtain ⟨H, G, hr, hG⟩ := hs.rp
    obtain ⟨G1, F1, r1, q1, o1, d1, s1, k1, u1, v1⟩ := take_ok hr hG hT.pos (ev_ok hr s) h1
    obtain ⟨G2, F2, r2, q2, o2, d2, s2, k2, u2, v2⟩ := take_ok r1 q1 hT.pos (k1 _ _ hlost (ev_ok hr x)) h2
    obtain ⟨news, Gn, e1, e2, e3, e4⟩ := o2.src (P := P) hSx
    have hap : ∀ a o, F1 a o → F2 a o → False := fun a o h h' => by
      obtain ⟨i, m', t', h3, _, h4⟩ := u2 a o h'
      exact d1 i m' t' h3 a o h4 h
    have hd1 : ∀ i m t, rts L2 i m t → ∀ a o, G2 i a o → F1 a o → False := fun i m' t' h a o h3 h4 => by
      obtain ⟨⟨t0, h5⟩, h6⟩ := v2 i m' t' h
      exact d1 i m' t0 h5 a o (h6 a o h3) h4
    obtain ⟨v', w', F', g1, g2, g3, g4⟩ := own_app (ty := ty) hS hT o1 e1 e2 e3 (fun k c hk hc x y h h' => hap x y h' (e4 k c hk hc x y h)) hbig
    have hF' : ∀ a o, F' a o → F1 a o ∨ F2 a o ∨ w.heap.size ≤ a := fun a o h => by
      rcases g4 a o h with h | ⟨k, c, hk, hc, h⟩ | h
      · exact .inl h
      · exact .inr (.inl (e4 k c hk hc a o h))
      · exact .inr (.inr h)
    refine ⟨v', w', run_append g1, ?_⟩
    rw [hd]
    refine hs.newS r2 q2 g3 (fun i m t h a o h3 h4 => hd1 i m t h a o h3 h4) s1 hN hb (by simp) (t := appT zt.length len f m g) (F := F') (h := v') g2 (fun h => by cases h) (fun id m' t' _ h a o h3 h4 => ?_) (fun a o h => ?_) VR.here
    · rcases hF' a o h4 with h5 | h5 | h5
      · exact hd1 id m' t' h a o h3 h5
      · exact d2 id m' t' h a o h3 h5
      · have : a < w.heap.size := by
          by_cases hm : m' = .ro
          · subst hm; exact r2.rold id t' h a o h3
          · exact (r2.own id m' t' h hm).old a o h3
        omega
    · rcases hF' a o h with h5 | h5 | h5
      · exact s1 a o h5
      · exact s2 a o h5
      · have := hs.chg.size; exact .inr (by omega))

/-- the rows that X shows, to be read -/
def rowsX (L : List E) : X → Option (Nat × Nat × (Nat → Nat → T))
  | .h id q => match rootL L id with
    | some (_, t) => match t.at q with
      | .s n len f => some (n, len, f)
      | _ => none
    | none => none
  | .a id q n lo len => match rootL L id with
    | some (_, t) => match t.at q with
      | .s n' _ f => if n' = n then some (n, len, fun k c => f (lo + k) c) else none
      | _ => none
    | none => none
  | _ => none
theorem rowsX_ok {val : Nat → Value} {H : Nat → Value} {G : Nat → FP} {w : World} (hr : Rp L val H G w) {x : X} {v : Value} (hv : VR (rts L) H w x v) {n len : Nat} {f : Nat → Nat → T} (h : rowsX L x = some (n, len, f)) : ∃ F, Rd w (.s n len f) F v := by
  cases x with
  | h id q =>
    simp only [rowsX] at h
    split at h
    · rename_i m t hR
      split at h
      · rename_i n' l' f' hT
        cases h
        obtain ⟨m', t', g1, g2, g3, g4⟩ := hv
        obtain ⟨rfl, rfl⟩ := hr.one _ _ _ _ _ g1 (rootL_mem hR)
        obtain ⟨hv', F, e1, e2⟩ := hr.node g1 g2
        rw [g4] at e1; cases e1
        rw [hT] at e2
        exact ⟨F, e2⟩
      · cases h
    · cases h
  | a id q nn lo ln =>
    simp only [rowsX] at h
    split at h
    · rename_i m t hR
      split at h
      · rename_i n' l' f' hT
        split at h
        · rename_i hn
          subst hn
          cases h
          obtain ⟨m', t', g1, g2, ⟨l2, f2, g3, g4⟩, hv', g5, ad, cap, g6, g7, g8, g9⟩ := hv
          obtain ⟨rfl, rfl⟩ := hr.one _ _ _ _ _ g1 (rootL_mem hR)
          rw [hT] at g3; cases g3
          obtain ⟨hw, F, e1, e2⟩ := hr.node g1 g2
          rw [g5] at e1; cases e1
          rw [hT] at e2
          exact ⟨F, e2.sub g4 g6 g7 g8 g9⟩
        · cases h
      · cases h
    · cases h
  | _ => simp [rowsX] at h
/-- append of what can be read: plain cells are copied -/
theorem Stp.appendC {t tx e : TypeId} {s x : Operand} {zt : List T} [hS : SlI P t e] [hSx : SlI P tx e] [hT : TyI P e zt] {L1 : List E} {len m : Nat} {f g : Nat → Nat → T} (hd : dst = some d) (hN : d < N) (hb : d < base)
    (h1 : takeX L zt.length (evX L s) = some (L1, .s zt.length len f)) (h2 : rowsX L (evX L x) = some (zt.length, m, g)) (hbig : len + m ≤ 4194304) : Stp P N ⟨dst, .call { callee := .builtin .append, args := #[s, x], argTypes := #[t, tx] }, ty, pos, af, gd⟩ L (putL (.rt d .row (appT zt.length len f m fun k c => flatT (g k c)) :: delR L1 d) d (.h d [])) :=
  Stp.op (fun cx a w hs => by
    obtain ⟨H, G, hr, hG⟩ := hs.rp
    obtain ⟨G1, F1, r1, q1, o1, d1, s1, k1, u1, v1⟩ := take_ok hr hG hT.pos (ev_ok hr s) h1
    obtain ⟨Fx, hx⟩ := rowsX_ok hr (ev_ok hr x) h2
    obtain ⟨news, e1, e2⟩ := hx.src (P := P) hSx
    obtain ⟨v', w', F', g1, g2, g3, g4⟩ := own_app (ty := ty) hS hT o1 e1 e2 (fun _ _ _ _ _ _ _ _ _ _ _ h => h.elim) (fun _ _ _ _ _ _ h => h.elim) hbig
    have hF' : ∀ a o, F' a o → F1 a o ∨ w.heap.size ≤ a := fun a o h => by
      rcases g4 a o h with h | ⟨k, c, hk, hc, h⟩ | h
      · exact .inl h
      · exact h.elim
      · exact .inr h
    refine ⟨v', w', run_append g1, ?_⟩
    rw [hd]
    refine hs.newS r1 q1 g3 (fun i m t h a o h3 h4 => d1 i m t h a o h3 h4) s1 hN hb (by simp) (t := appT zt.length len f m fun k c => flatT (g k c)) (F := F') (h := v') g2 (fun h => by cases h) (fun id m' t' _ h a o h3 h4 => ?_) (fun a o h => ?_) VR.here
    · rcases hF' a o h4 with h5 | h5
      · exact d1 id m' t' h a o h3 h5
      · have : a < w.heap.size := by
          by_cases hm : m' = .ro
          · subst hm; exact r1.rold id t' h a o h3
          · exact (r1.own id m' t' h hm).old a o h3
        omega
    · rcases hF' a o h with h5 | h5
      · exact s1 a o h5
      · have := hs.chg.size; exact .inr (by omega))
end
end Go.Proofs.Ytimmbmphfgnelaa.VM
