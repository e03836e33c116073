/- What single operations do to owned and readable slices: append, make, load, store. No conditions. -/
import Derived.Test.YtlploojfcmcckaaDoorLib
namespace Go.Proofs.YtlploojfcmcckaaDoor
open Go.RowKit

/-- from w to w' only the blocks of fp have turned; new ones may have come -/
structure Upd (fp : List Nat) (w w' : World) : Prop where
  os : w'.os = w.os
  tape : w'.tape = w.tape
  output : w'.output = w.output
  size : w.heap.size ≤ w'.heap.size
  block : ∀ k, k < w.heap.size → k ∉ fp → w'.heap[k]? = w.heap[k]?

theorem Upd.refl (fp : List Nat) (w : World) : Upd fp w w := ⟨rfl, rfl, rfl, Nat.le_refl _, fun _ _ _ => rfl⟩
theorem Upd.trans {fp : List Nat} {a b c : World} (h : Upd fp a b) (k : Upd fp b c) : Upd fp a c :=
  ⟨k.os.trans h.os, k.tape.trans h.tape, k.output.trans h.output, Nat.le_trans h.size k.size, fun i hi hn => (k.block i (Nat.lt_of_lt_of_le hi h.size) hn).trans (h.block i hi hn)⟩
theorem Upd.mono {fp fp' : List Nat} {w w' : World} (h : Upd fp w w') (hs : ∀ b ∈ fp, b < w.heap.size → b ∈ fp') : Upd fp' w w' :=
  ⟨h.os, h.tape, h.output, h.size, fun k hk hn => h.block k hk fun hm => hn (hs k hm hk)⟩
theorem Upd.alloc (fp : List Nat) (w : World) (o : Obj) : Upd fp w (w.alloc o) := ⟨rfl, rfl, rfl, by simp, fun k hk _ => Below.heap_alloc _ _ _ hk⟩
theorem Upd.below {fp : List Nat} {w w' : World} {B : Nat} (h : Upd fp w w') (hB : B ≤ w.heap.size) (hf : ∀ b ∈ fp, B ≤ b) : Below B w w' :=
  ⟨h.os, h.tape, h.output, h.size, fun k hk => h.block k (by omega) fun hm => by have := hf k hm; omega⟩
theorem Below.upd {fp : List Nat} {w w' : World} (h : Below w.heap.size w w') : Upd fp w w' := ⟨h.os, h.tape, h.output, h.size, fun k hk _ => h.block k hk⟩
theorem Upd.nil {w w' : World} (h : Upd [] w w') : Below w.heap.size w w' := h.below (Nat.le_refl _) (by simp)

section
variable {α : Type} [Ty α]

/-- what is owned apart from what has turned stays owned -/
theorem OwnS.upd {w w' : World} {fp fq : List Nat} {l : List α} {v : Value} (h : OwnS w fp l v) (hu : Upd fq w w') (hd : ∀ b ∈ fp, b ∉ fq) : OwnS w' fp l v :=
  h.frame fun b hb => hu.block b (h.lt b hb) (hd b hb)
theorem OwnL.upd {w w' : World} {fp fq : List Nat} {l : List α} {cs : List Value} (h : OwnL w fp l cs) (hu : Upd fq w w') (hd : ∀ b ∈ fp, b ∉ fq) : OwnL w' fp l cs :=
  h.frame fun b hb => hu.block b (h.lt b hb) (hd b hb)
theorem own_upd {w w' : World} {fp fq : List Nat} {a : α} {cs : List Value} (h : Ty.own w fp a cs) (hu : Upd fq w w') (hd : ∀ b ∈ fp, b ∉ fq) : Ty.own w' fp a cs :=
  Ty.own_frame h fun b hb => hu.block b (Ty.own_lt h b hb) (hd b hb)

theorem run_append_roomAt {P : Program} (w : World) (t ty e : TypeId) (i : TypeInfo) (ht : P.underlying t = some (.slice e)) (hi : P.info? e = some i)
    (g off sLen sCap : Nat) (cur : Array Value) (e' : TypeId) (hg : w.heap[g]? = some (.cells cur e' (0, 0)))
    (a : Addr) (m c : Nat) (news : List Value) (hl : news.length = m * i.size) (hnews : ∀ j u, news[j]? = some u → w.cell? (a.add j) = some u) (h1 : ∀ u ∈ news, u.oneCell' = true)
    (hroom : sLen + m ≤ sCap) (hfit : off + sLen * i.size + news.length ≤ cur.size) :
    (Builtin.append_ #[t, t] ty #[.slice (some ⟨g, off, none⟩) sLen sCap, .slice (some a) m c]).run P w =
      .ok (.slice (some ⟨g, off, none⟩) (sLen + m) sCap) (w.setRow g (cur.toList.take (off + sLen * i.size) ++ news ++ cur.toList.drop (off + sLen * i.size + news.length)).toArray) := by
  have hf := run_firstCells_some (P := P) w i.size m a m c news hl hnews
  have hst := run_storeCells_at P g (off + sLen * i.size) e' news 0 cur w hg (by simpa using hfit) h1
  simp only [Nat.add_zero] at hst
  simp [Builtin.append_, run_underlying ht, sizeOf, typeInfo, hi, Builtin.lenOf, hroom, hf, Addr.add_lit, hst]

theorem nodup_app {l l' : List Nat} : (l ++ l').Nodup ↔ l.Nodup ∧ l'.Nodup ∧ ∀ a ∈ l, ∀ b ∈ l', a ≠ b := List.nodup_append

/-- append of elements that lie at 'ad': what comes out is owned -/
theorem run_app {P : Program} (w : World) (t ty e : TypeId) (i : TypeInfo) (z : Value) (ht : P.underlying t = some (.slice e)) (hi : P.info? e = some i) (hz : i.zero = some z)
    (hsize : i.size = Ty.n α) (hby : i.bytes ≤ 1024) (hzs : z.cells.size = Ty.n α)
    {fp fq : List Nat} {l ys : List α} {v : Value} (h : OwnS w fp l v) (ad : Addr) (c : Nat) {news : List Value} (hy : OwnL w fq ys news)
    (hnews : ∀ j u, news[j]? = some u → w.cell? (ad.add j) = some u) (hbig : l.length + ys.length ≤ 4194304) (hnd : (fp ++ fq).Nodup) :
    ∃ v' w' fp', (Builtin.append_ #[t, t] ty #[v, .slice (some ad) ys.length c]).run P w = .ok v' w' ∧ OwnS w' fp' (l ++ ys) v' ∧ Upd fp w w' ∧ fp'.Nodup ∧
      ∀ b ∈ fp', b ∈ fp ∨ b ∈ fq ∨ w.heap.size ≤ b := by
  have hl : news.length = ys.length * i.size := by rw [hsize]; exact hy.rd.length
  have hpos := Ty.npos (α := α)
  have hb2 : (l.length + ys.length) * i.bytes ≤ 140737488355328 := by
    have := Nat.mul_le_mul hbig hby; omega
  rcases h with ⟨rfl, rfl, rfl⟩ | ⟨b, off, cap, cur, e', fps, cs, rfl, hb, h1, h2, h3, rfl, h4, h5⟩
  · cases ys with
    | nil =>
      obtain ⟨rfl, rfl⟩ := hy
      refine ⟨.slice none 0 0, w, [], ?_, .inl ⟨rfl, rfl, rfl⟩, Upd.refl _ _, List.nodup_nil, by simp⟩
      simp [Builtin.append_, run_underlying ht, sizeOf, typeInfo, hi, Builtin.lenOf, Builtin.firstCells, loadCells, loadCellsFrom]
    | cons y ys =>
      simp only [List.length_nil, Nat.zero_add] at hb2 hbig
      have hr := run_append_nil (P := P) w t ty e i z ht hi hz ad (y :: ys).length c news hl hnews (by simp) (by omega) (by omega)
      have hge := grownCap_ge w (y :: ys).length 0 e
      have hcm := grownCap_le_maxLen w (y :: ys).length 0 e (by simp only [maxLen]; omega)
      have hfq : ∀ k ∈ fq, k < w.heap.size := hy.lt
      refine ⟨_, _, w.heap.size :: fq, hr, .inr ⟨w.heap.size, 0, _, _, e, fq, news, rfl, heap_alloc_new w.drew _, hge, hcm, ?_, rfl, ?_, ?_⟩, ⟨rfl, rfl, rfl, by simp, fun k hk _ => Below.heap_alloc w.drew _ k hk⟩, ?_, ?_⟩
      · simp only [Array.size_append, List.size_toArray, size_zeroCells, hzs, hl, hsize, ← Nat.add_mul, Nat.zero_add]
        exact Nat.mul_le_mul_right _ (by omega)
      · refine hy.frame fun k hk => Below.heap_alloc w.drew _ k (hfq k hk)
      · simp only [List.drop_zero, Array.toList_append, List.nil_append]
        rw [← hsize, ← hl]; exact List.take_left
      · refine List.nodup_cons.2 ⟨fun hm => ?_, by simpa using hnd⟩
        have := hfq _ hm; omega
      · intro k hk
        rcases List.mem_cons.1 hk with rfl | hk
        · exact .inr (.inr (Nat.le_refl _))
        · exact .inr (.inl hk)
  · have hcs : cs.length = l.length * i.size := by rw [hsize]; exact h4.rd.length
    obtain ⟨hnd1, hnd2, hnd3⟩ := nodup_app.1 hnd
    have hbl : b < w.heap.size := (Array.getElem?_eq_some_iff.1 hb).1
    have hbn : b ∉ fps := (List.nodup_cons.1 hnd1).1
    by_cases hroom : l.length + ys.length ≤ cap
    · have hfit : off + l.length * i.size + news.length ≤ cur.size := by
        rw [hl, hsize, Nat.add_assoc, ← Nat.add_mul]
        exact Nat.le_trans (Nat.add_le_add_left (Nat.mul_le_mul_right _ hroom) _) h3
      have hr := run_append_roomAt (P := P) w t ty e i ht hi b off l.length cap cur e' hb ad ys.length c news hl hnews (hy.rd.one) hroom hfit
      have hoth : ∀ k, k ≠ b → (w.setRow b (cur.toList.take (off + l.length * i.size) ++ news ++ cur.toList.drop (off + l.length * i.size + news.length)).toArray).heap[k]? = w.heap[k]? := fun k hk => setRow_other w b k _ hk
      refine ⟨_, _, b :: (fps ++ fq), hr, .inr ⟨b, off, cap, _, e', fps ++ fq, cs ++ news, by simp, setRow_heap w b cur _ e' _ hb, by simpa using hroom, h2, ?_, rfl, ?_, ?_⟩, ⟨rfl, rfl, rfl, by simp, fun k _ hk => hoth k (by simp at hk; exact hk.1)⟩, ?_, ?_⟩
      · simp only [List.size_toArray, List.length_append, List.length_take, List.length_drop, Array.length_toList]
        omega
      · refine OwnL.append (h4.frame fun k hk => hoth k fun e => hbn (e ▸ hk)) (hy.frame fun k hk => hoth k fun e => hnd3 b (by simp) k hk e.symm)
      · have e1 : (cur.toList.take (off + l.length * i.size)).drop off = cs := by
          rw [List.drop_take]; simp only [Nat.add_sub_cancel_left]; rw [hsize]; exact h5
        simp only [List.append_assoc]
        rw [List.drop_append_of_le_length (by simp; omega), e1, ← hsize, List.length_append, Nat.add_mul, ← hcs, ← hl, ← List.append_assoc, ← List.length_append]
        exact List.take_left
      · refine List.nodup_cons.2 ⟨?_, ?_⟩
        · simp only [List.mem_append, not_or]
          exact ⟨hbn, fun hm => hnd3 b (by simp) b hm rfl⟩
        · exact nodup_app.2 ⟨(List.nodup_cons.1 hnd1).2, hnd2, fun x hx y hy => hnd3 x (by simp [hx]) y hy⟩
      · intro k hk
        simp only [List.mem_cons, List.mem_append] at hk ⊢
        rcases hk with h | h | h
        · exact .inl (.inl h)
        · exact .inl (.inr h)
        · exact .inr (.inl h)
    · have holds : ∀ j u, cs[j]? = some u → w.cell? ((⟨b, off, none⟩ : Addr).add j) = some u := fun j u hj => by
        rw [Addr.add_lit, cell_of_row w b (off + j) cur e' (0, 0) hb]
        rw [← h5, List.getElem?_take] at hj
        split at hj
        · simpa using hj
        · cases hj
      have hr := run_append_grow (P := P) w t ty e i z ht hi hz ⟨b, off, none⟩ l.length cap cs hcs holds ad ys.length c news hl hnews (by omega) (by omega) (growslice_fits (by omega) hb2)
      have hge := grownCap_ge w (l.length + ys.length) cap e
      have hcm := grownCap_le_maxLen w (l.length + ys.length) cap e (by simp only [maxLen]; omega)
      have hfps : ∀ k ∈ fps ++ fq, k < w.heap.size := fun k hk => (List.mem_append.1 hk).elim (h4.lt k) (hy.lt k)
      refine ⟨_, _, w.heap.size :: (fps ++ fq), hr, .inr ⟨w.heap.size, 0, _, _, e, fps ++ fq, cs ++ news, by simp, heap_alloc_new w.drew _, by simpa using hge, hcm, ?_, rfl, ?_, ?_⟩, ⟨rfl, rfl, rfl, by simp, fun k hk _ => Below.heap_alloc w.drew _ k hk⟩, ?_, ?_⟩
      · simp only [Array.size_append, List.size_toArray, size_zeroCells, hzs, hcs, hl, hsize, ← Nat.add_mul, Nat.zero_add]
        exact Nat.mul_le_mul_right _ (by omega)
      · exact (OwnL.append h4 hy).frame fun k hk => Below.heap_alloc w.drew _ k (hfps k hk)
      · simp only [List.drop_zero, Array.toList_append, List.append_assoc]
        rw [← List.append_assoc, ← hsize, List.length_append, Nat.add_mul, ← hcs, ← hl, ← List.length_append]
        exact List.take_left
      · refine List.nodup_cons.2 ⟨fun hm => ?_, ?_⟩
        · have := hfps _ hm; omega
        · exact nodup_app.2 ⟨(List.nodup_cons.1 hnd1).2, hnd2, fun x hx y hy => hnd3 x (by simp [hx]) y hy⟩
      · intro k hk
        simp only [List.mem_cons, List.mem_append] at hk ⊢
        rcases hk with h | h | h
        · exact .inr (.inr (by omega))
        · exact .inl (.inr h)
        · exact .inr (.inl h)

theorem wpList_app {P : Program} {w : World} {ops : Array Oper} {rest : List Oper} {o : Oper} {a : Act} {Q : Exit → Act → World → Prop} (hgd : o.guard = none) (s x : Operand) (t : TypeId)
    (ho : o.op = .call { callee := .builtin .append, args := #[s, x], argTypes := #[t, t] })
    (e : TypeId) (i : TypeInfo) (z : Value) (ht : P.underlying t = some (.slice e)) (hi : P.info? e = some i) (hz : i.zero = some z)
    (hsize : i.size = Ty.n α) (hby : i.bytes ≤ 1024) (hzs : z.cells.size = Ty.n α)
    {fp fq : List Nat} {l ys : List α} {v : Value} (hs : a.eval s = v) (h : OwnS w fp l v) (ad : Addr) (m c : Nat) (hx : a.eval x = .slice (some ad) m c) {news : List Value} (hm : ys.length = m) (hy : OwnL w fq ys news)
    (hnews : ∀ j u, news[j]? = some u → w.cell? (ad.add j) = some u) (hbig : l.length + ys.length ≤ 4194304) (hnd : (fp ++ fq).Nodup)
    (hk : ∀ v' w' fp', OwnS w' fp' (l ++ ys) v' → Upd fp w w' → fp'.Nodup → (∀ b ∈ fp', b ∈ fp ∨ b ∈ fq ∨ w.heap.size ≤ b) → wpList P ops Q rest (a.put o.dst v') w') : wpList P ops Q (o :: rest) a w := by
  refine wpList_plain hgd fun K hK => ?_
  subst hm
  obtain ⟨v', w', fp', hr, h2, h3, h4, h5⟩ := run_app (P := P) w t o.type e i z ht hi hz hsize hby hzs h ad c hy hnews hbig hnd
  unfold Oper.wp execOp
  simp only [ho, resolve, invoke, builtin, Sem.run_bind, Sem.run_pure, Result.andThen_ok, List.map_toArray, List.map_cons, List.map_nil, hs, hx, hr]
  exact hK _ _ (hk v' w' fp' h2 h3 h4 h5)

end

/-- owned from block 'base' on -/
def Own {α : Type} [Ty α] (base : Nat) (w : World) (l : List α) (v : Value) : Prop := ∃ fp, OwnS w fp l v ∧ fp.Nodup ∧ ∀ b ∈ fp, base ≤ b

section
variable {α : Type} [Flat α]

theorem flat_single {w : World} (y : α) : OwnL w [] [y] (Flat.enc y) := OwnL.single (Flat.own_iff.2 ⟨rfl, rfl⟩)

/-- append of one element without memory behind it, which has just been laid into a block of its own -/
theorem wpList_app1 {P : Program} {w : World} {ops : Array Oper} {rest : List Oper} {o : Oper} {a : Act} {Q : Exit → Act → World → Prop} (hgd : o.guard = none) (s x : Operand) (t : TypeId)
    (ho : o.op = .call { callee := .builtin .append, args := #[s, x], argTypes := #[t, t] })
    (e e' : TypeId) (i : TypeInfo) (z : Value) (ht : P.underlying t = some (.slice e)) (hi : P.info? e = some i) (hz : i.zero = some z)
    (hsize : i.size = Ty.n α) (hby : i.bytes ≤ 1024) (hzs : z.cells.size = Ty.n α)
    {B : Nat} {l : List α} {y : α} {v : Value} (hs : a.eval s = v) (h : Own B w l v) (c : Nat) (hx : a.eval x = .slice (some ⟨w.heap.size, 0, none⟩) 1 c)
    (hB : B ≤ w.heap.size) (hbig : l.length + 1 ≤ 4194304) {cs : List Value} {W : World} (hW : W = w.alloc (.cells cs.toArray e')) (hcs : cs = Flat.enc y)
    (hk : ∀ v' w', Own B w' (l ++ [y]) v' → Below B w w' → wpList P ops Q rest (a.put o.dst v') w') : wpList P ops Q (o :: rest) a W := by
  subst hW hcs
  obtain ⟨fp, h1, h2, h3⟩ := h
  refine wpList_app hgd s x t ho e i z ht hi hz hsize hby hzs (fp := fp) (fq := []) (ys := [y]) (news := Flat.enc y) hs (h1.upd (Upd.alloc [] w _) (by simp)) _ 1 c hx rfl (flat_single y) ?_ hbig (by simpa using h2) ?_
  · intro j u hj
    rw [Addr.add_lit, cell_of_row _ w.heap.size (0 + j) (Flat.enc y).toArray e' (0, 0) (heap_alloc_new w _)]
    simpa using hj
  · intro v' w' fp' k1 k2 k3 k4
    refine hk v' w' ⟨fp', k1, k3, fun b hb => ?_⟩ (((Below.refl _ _).alloc hB _).trans (k2.below (by simp; omega) h3))
    rcases k4 b hb with h | h | h
    · exact h3 b h
    · cases h
    · simp at h; omega
end

/-- 'string(b)' of bytes that can be read -/
theorem run_str {P : Program} (w : World) (src dst e : TypeId) (hs : P.underlying src = some (.slice e)) (he : P.underlying e = some (.int .u8)) (hd : P.underlying dst = some .string)
    {l : List UInt8} {v : Value} (h : RdS w l v) : (convert src dst v).run P w = .ok (.string ⟨l.toArray⟩) w := by
  obtain ⟨a, cap, cs, rfl, h1, h2, h3, h4⟩ := h
  cases l with
  | nil =>
    rw [run_convert_bytes_string w src dst e a _ cap hs he hd]
    cases a <;> simp [Conv.bytesToString, loadCells, loadCellsFrom, Sem.run_pure] <;> rfl
  | cons y l =>
    obtain ⟨b, off, rfl, hc⟩ := h4 (by simp)
    refine run_convert_bytes_back w src dst e _ cap (y :: l) hs he hd fun j hj => ?_
    rw [Addr.add_lit]
    refine hc j _ ?_
    have hg : ∀ (l : List UInt8) (cs : List Value), RdL w l cs → ∀ j (hj : j < l.length), cs[j]? = some (bv l[j]) := by
      intro l
      induction l with
      | nil => intro _ _ j hj; simp at hj
      | cons x l ih =>
        intro cs ⟨c1, c2, hcs, hx, hr⟩ j hj
        have hx' : c1 = [bv x] := hx
        subst hx' hcs
        cases j with
        | zero => rfl
        | succ j => simpa using ih c2 hr j (by simpa using hj)
    exact hg _ _ h3 j hj

theorem wpList_str {P : Program} {w : World} {ops : Array Oper} {rest : List Oper} {o : Oper} {a : Act} {Q : Exit → Act → World → Prop} (hgd : o.guard = none) (src dst : TypeId) (x : Operand)
    (ho : o.op = .convert src dst x) (e : TypeId) (hs : P.underlying src = some (.slice e)) (he : P.underlying e = some (.int .u8)) (hd : P.underlying dst = some .string)
    {l : List UInt8} (h : RdS w l (a.eval x)) (hk : wpList P ops Q rest (a.put o.dst (.string ⟨l.toArray⟩)) w) : wpList P ops Q (o :: rest) a w := by
  refine wpList_plain hgd fun K hK => ?_
  have hr := run_str (P := P) w src dst e hs he hd h
  unfold Oper.wp execOp
  simp only [ho, Sem.run_bind, hr, Result.andThen_ok, Sem.run_pure]
  exact hK _ _ hk

/-! ### make -/
theorem madeCells_succ (z : Array Value) (n : Nat) : (madeCells z ((n + 1) * z.size)).toList = z.toList ++ (madeCells z (n * z.size)).toList := by
  apply List.ext_getElem
  · simp [madeCells, Nat.add_mul]; omega
  · intro j h1 h2
    simp only [madeCells, Array.toList_map, Array.toList_range, List.getElem_map, List.getElem_range]
    by_cases hj : j < z.size
    · rw [List.getElem_append_left (by simpa using hj)]
      simp [Nat.mod_eq_of_lt hj, hj]
    · rw [List.getElem_append_right (by simp; omega)]
      simp only [Array.length_toList, List.getElem_map, List.getElem_range]
      rw [Nat.mod_eq_sub_mod (by omega)]

theorem OwnL.made {α : Type} [Ty α] {w : World} {z : Array Value} {z0 : α} (h0 : Ty.own w [] z0 z.toList) :
    ∀ n, OwnL w [] (List.replicate n z0) (madeCells z (n * z.size)).toList
  | 0 => by simp [OwnL, madeCells]
  | n + 1 => by
    rw [madeCells_succ z, List.replicate_succ]
    exact ⟨[], [], _, _, rfl, rfl, h0, OwnL.made h0 n⟩

/-- 'make([]T, n)' -/
theorem wpList_mk {α : Type} [Ty α] {P : Program} {w : World} {ops : Array Oper} {rest : List Oper} {o : Oper} {a : Act} {Q : Exit → Act → World → Prop}
    (hg : o.guard = none) (l c : Operand) (t : TypeId) (hop : o.op = Op.makeSlice t l c)
    (e : TypeId) (i : TypeInfo) (z : Value) (z0 : α) (h1 : P.underlying t = some (.slice e)) (h2 : P.info? e = some i) (h3 : i.zero = some z) (hsize : i.size = Ty.n α) (hby : i.bytes ≤ 1024)
    (hzs : z.cells.size = Ty.n α) (h0 : ∀ w, Ty.own w [] z0 z.cells.toList)
    (kl kc : IntKind) (L C : Int) (n : Nat) (hl : a.eval l = .int kl L) (hc : a.eval c = .int kc C) (hL : L = (n : Int)) (hC : C = (n : Int)) (hn : n ≤ 4194304)
    (hK : ∀ w', OwnS w' [w.heap.size] (List.replicate n z0) (.slice (some ⟨w.heap.size, 0, none⟩) n n) → Upd [] w w' → w'.heap.size = w.heap.size + 1 → wpList P ops Q rest (a.put o.dst (.slice (some ⟨w.heap.size, 0, none⟩) n n)) w') :
    wpList P ops Q (o :: rest) a w := by
  refine wpList_plain hg fun K hK' => ?_
  have hb' : (i.bytes : Int) * (n : Int) ≤ 281474976710656 := by
    have := Nat.mul_le_mul hby hn
    have h : ((i.bytes * n : Nat) : Int) ≤ 281474976710656 := by omega
    rwa [Int.natCast_mul] at h
  have hr := run_make (P := P) w t e i z h1 h2 h3 kl kc n n (by omega) (Int.le_refl _) hb' (by omega)
  simp only [Int.toNat_natCast] at hr
  subst hL
  subst hC
  unfold Oper.wp
  simp only [execOp, hop, hl, hc, Sem.run_bind, hr, Result.andThen_ok, Sem.run_pure]
  refine hK' _ _ (hK _ (.inr ⟨w.heap.size, 0, n, madeCells z.cells (n * i.size), e, [], _, by simp, heap_alloc_new w _, by simp, by simp [maxLen]; omega, ?_, rfl, ?_, rfl⟩) (Upd.alloc [] w _) (by simp))
  · rw [size_madeCells, hsize]; omega
  · have hm := OwnL.made (w := w.alloc (.cells (madeCells z.cells (n * i.size)) e)) (z := z.cells) (z0 := z0) (h0 _) n
    rw [List.drop_zero, List.take_of_length_le (by simp [size_madeCells, hsize]), hsize, ← hzs]
    rw [hsize, ← hzs] at hm
    exact hm

/-! ### one cell read, one cell written -/
theorem RdL.cell {α : Type} [One α] {w : World} : ∀ {l : List α} {cs : List Value}, RdL w l cs → ∀ k (hk : k < l.length), cs[k]? = some (One.val l[k])
  | a :: l, cs, ⟨c1, c2, hcs, h1, h2⟩, k, hk => by
    have hc1 : c1 = [One.val a] := by rw [← One.enc_val]; exact Flat.rd_iff.1 h1
    subst hc1 hcs
    cases k with
    | zero => rfl
    | succ k => simpa using RdL.cell h2 k (by simpa using hk)

theorem RdS.cell {α : Type} [One α] {w : World} {l : List α} {b off n cap : Nat} (h : RdS w l (.slice (some ⟨b, off, none⟩) n cap)) (k : Nat) (hk : k < l.length) : w.cell? ⟨b, off + k, none⟩ = some (One.val l[k]) := by
  obtain ⟨a, cap', cs, hv, h1, h2, h3, h4⟩ := h
  obtain ⟨b', off', ha, hc⟩ := h4 (by intro h; subst h; simp at hk)
  cases hv
  cases ha
  exact hc k _ (h3.cell k hk)

/-- a slice that can be read: empty, or at an address -/
theorem RdS.cases {α : Type} [Ty α] {w : World} {l : List α} {v : Value} (h : RdS w l v) :
    (l = [] ∧ ∃ a cap, v = .slice a 0 cap) ∨ (0 < l.length ∧ ∃ b off cap, v = .slice (some ⟨b, off, none⟩) l.length cap ∧ RdS w l (.slice (some ⟨b, off, none⟩) l.length cap)) := by
  obtain ⟨a, cap, cs, hv, h1, h2, h3, h4⟩ := h
  cases l with
  | nil => exact .inl ⟨rfl, a, cap, hv⟩
  | cons x l =>
    obtain ⟨b, off, ha, hc⟩ := h4 (by simp)
    subst ha
    exact .inr ⟨by simp, b, off, cap, hv, _, cap, cs, rfl, h1, h2, h3, h4⟩

theorem OwnL.flat {α : Type} [Flat α] {w w' : World} : ∀ {l : List α} {fp : List Nat} {cs : List Value}, OwnL w fp l cs → fp = [] ∧ OwnL w' [] l cs
  | [], _, _, ⟨h, h'⟩ => ⟨h, rfl, h'⟩
  | a :: l, _, _, ⟨f1, f2, c1, c2, hf, hc, h1, h2⟩ => by
    obtain ⟨rfl, h1'⟩ := Flat.own_iff.1 h1
    obtain ⟨rfl, h2'⟩ := OwnL.flat (w' := w') h2
    exact ⟨hf, [], [], c1, c2, rfl, hc, Flat.own_iff.2 ⟨rfl, h1'⟩, h2'⟩

theorem OwnL.set1 {α : Type} [One α] {w : World} : ∀ {l : List α} {fp : List Nat} {cs : List Value}, OwnL w fp l cs → ∀ (k : Nat) (x : α), OwnL w fp (l.set k x) (cs.set k (One.val x))
  | [], _, _, h, k, x => by obtain ⟨rfl, rfl⟩ := h; simp [OwnL]
  | a :: l, _, _, ⟨f1, f2, c1, c2, hf, hc, h1, h2⟩, k, x => by
    obtain ⟨rfl, h1'⟩ := Flat.own_iff.1 h1
    rw [One.enc_val] at h1'
    subst h1' hc
    cases k with
    | zero => exact ⟨[], f2, [One.val x], c2, hf, rfl, Flat.own_iff.2 ⟨rfl, (One.enc_val x).symm⟩, h2⟩
    | succ k => exact ⟨[], f2, [One.val a], _, hf, rfl, h1, OwnL.set1 h2 k x⟩

theorem OwnS.store1 {α : Type} [One α] {w : World} {fp : List Nat} {l : List α} {b off n cap : Nat} (h : OwnS w fp l (.slice (some ⟨b, off, none⟩) n cap)) (k : Nat) (hk : k < l.length) :
    b ∈ fp ∧ w.cell? ⟨b, off + k, none⟩ = some (One.val l[k]) ∧ w.frozen? ⟨b, off + k, none⟩ = false ∧
      ∀ x : α, OwnS (w.setCell ⟨b, off + k, none⟩ (One.val x)) fp (l.set k x) (.slice (some ⟨b, off, none⟩) n cap) ∧ Upd fp w (w.setCell ⟨b, off + k, none⟩ (One.val x)) := by
  have hrd := h.rd
  rcases h with ⟨hv, _⟩ | ⟨b', off', cap', cur, e, fps, cs, hv, hb, h1, h2, h3, rfl, h4, h5⟩
  · cases hv
  cases hv
  obtain ⟨rfl, _⟩ := h4.flat (w' := w)
  have hlt : off + k < cur.size := by
    have := Nat.mul_le_mul_right (Ty.n α) h1
    rw [One.n_one] at *
    omega
  have hset : (w.setCell ⟨b, off + k, none⟩) = fun v => { w with heap := w.heap.setIfInBounds b (.cells (cur.setIfInBounds (off + k) v) e (0, 0)) } := by
    funext v
    have hbl := (Array.getElem?_eq_some_iff.1 hb).1
    have hbe := (Array.getElem?_eq_some_iff.1 hb).2
    simp only [World.setCell]
    congr 1
    apply Array.ext_getElem?
    intro j
    rw [Array.getElem?_modify, Array.getElem?_setIfInBounds]
    split
    · subst_vars; simp [hbl, hbe]
    · rfl
  refine ⟨by simp, hrd.cell k hk, ?_, fun x => ⟨.inr ⟨b, off, cap, cur.setIfInBounds (off + k) (One.val x), e, [], cs.set k (One.val x), by simp, ?_, by simpa using h1, h2, by simpa using h3, rfl, ?_, ?_⟩, ?_⟩⟩
  · simp [World.frozen?, hb]
  · rw [hset]
    have hbl := (Array.getElem?_eq_some_iff.1 hb).1
    simp [hbl]
  · exact ((h4.set1 k x).flat (w' := _)).2
  · rw [Array.toList_setIfInBounds, List.drop_set, if_neg (by omega), Nat.add_sub_cancel_left, List.length_set, List.take_set, h5]
  · exact ⟨rfl, rfl, rfl, by simp [World.setCell], fun j _ hj => Below.heap_setCell _ _ _ _ (by simp at hj; exact hj)⟩

theorem OwnS.store1z {α : Type} [One α] {w : World} {fp : List Nat} {l : List α} {b n cap : Nat} (h : OwnS w fp l (.slice (some ⟨b, 0, none⟩) n cap)) (k : Nat) (hk : k < l.length) :
    b ∈ fp ∧ w.cell? ⟨b, k, none⟩ = some (One.val l[k]) ∧ w.frozen? ⟨b, k, none⟩ = false ∧
      ∀ x : α, OwnS (w.setCell ⟨b, k, none⟩ (One.val x)) fp (l.set k x) (.slice (some ⟨b, 0, none⟩) n cap) ∧ Upd fp w (w.setCell ⟨b, k, none⟩ (One.val x)) := by
  have := h.store1 k hk
  simpa only [Nat.zero_add] using this

/-- '[]T{}' -/
theorem Own.built0 {α : Type} [Ty α] (w : World) (e : TypeId) : Own w.heap.size (w.alloc (.cells #[] e)) ([] : List α) (.slice (some ⟨w.heap.size, 0, none⟩) 0 0) :=
  ⟨[w.heap.size], .inr ⟨w.heap.size, 0, 0, #[], e, [], [], rfl, heap_alloc_new w _, by simp, by simp [maxLen], by simp, rfl, ⟨rfl, rfl⟩, by simp⟩, by simp, by simp⟩
theorem Own.rd {α : Type} [Ty α] {w : World} {B : Nat} {l : List α} {v : Value} (h : Own B w l v) : RdS w l v := let ⟨_, h, _⟩ := h; h.rd
/-- '[]T{x}' of one cell -/
theorem RdS.built1 {α : Type} [One α] {w : World} {e : TypeId} {x : Value} {y : α} (h : x = One.val y) : RdS (w.alloc (.cells #[x] e)) [y] (.slice (some ⟨w.heap.size, 0, none⟩) 1 1) := by
  subst h
  refine ⟨_, 1, [One.val y], rfl, by simp, by simp [maxLen], ⟨[One.val y], [], rfl, Flat.rd_iff.2 (One.enc_val y).symm, rfl⟩, fun _ => ⟨_, 0, rfl, fun j c hj => ?_⟩⟩
  rw [cell_of_row _ w.heap.size (0 + j) _ e (0, 0) (heap_alloc_new w _)]
  simpa using hj
theorem str_app (a b : List UInt8) : (⟨a.toArray⟩ : ByteArray) ++ ⟨b.toArray⟩ = ⟨(a ++ b).toArray⟩ := by
  apply ByteArray.ext; rw [ByteArray.data_append]; simp
/-- '+' of two texts -/
theorem wpList_cat {P : Program} {w : World} {ops : Array Oper} {rest : List Oper} {o : Oper} {a : Act} {Q : Exit → Act → World → Prop} (hgd : o.guard = none) (t : TypeId) (x y : Operand)
    (ho : o.op = .binOp .add t x y t) (k l : List UInt8) (hx : a.eval x = .string ⟨k.toArray⟩) (hy : a.eval y = .string ⟨l.toArray⟩) (hb : k.length + l.length ≤ 1099511627776)
    (hk : wpList P ops Q rest (a.put o.dst (.string ⟨(k ++ l).toArray⟩)) w) : wpList P ops Q (o :: rest) a w := by
  refine wpList_plain hgd fun K hK => ?_
  have hr := run_string_add_sum (P := P) (w := w) ⟨k.toArray⟩ ⟨l.toArray⟩ (by simp only [ByteArray.size, List.size_toArray]; omega)
  rw [str_app] at hr
  have he : (eqGuard .add t x y (.string ⟨k.toArray⟩) (.string ⟨l.toArray⟩)) = pure () := rfl
  unfold Oper.wp execOp
  simp only [ho, hx, hy, he, binOp_string_add, Sem.run_bind, hr, Result.andThen_ok, Sem.run_pure, pure_bind]
  exact hK _ _ hk
theorem still_of {P : Program} {f : FuncId} {args : Array Value} {w : World} {v : Value} (h : Calls P f args w fun e w' => e = .returned v ∧ w = w') : Calls P f args w fun e w' => e = .returned v ∧ w' = w :=
  h.mono fun _ _ ⟨h1, h2⟩ => ⟨h1, h2.symm⟩
theorem Own.drew {α : Type} [Ty α] {w : World} {B : Nat} {l : List α} {v : Value} (h : Own B w l v) : Own B w.drew l v :=
  let ⟨fp, h1, h2, h3⟩ := h
  ⟨fp, h1.frame fun _ _ => rfl, h2, h3⟩
/-- append of elements without memory behind them, which have just been laid into a block of their own -/
theorem wpList_appn {α : Type} [Flat α] {P : Program} {w : World} {ops : Array Oper} {rest : List Oper} {o : Oper} {a : Act} {Q : Exit → Act → World → Prop} (hgd : o.guard = none) (s x : Operand) (t : TypeId)
    (ho : o.op = .call { callee := .builtin .append, args := #[s, x], argTypes := #[t, t] })
    (e e' : TypeId) (i : TypeInfo) (z : Value) (ht : P.underlying t = some (.slice e)) (hi : P.info? e = some i) (hz : i.zero = some z)
    (hsize : i.size = Ty.n α) (hby : i.bytes ≤ 1024) (hzs : z.cells.size = Ty.n α)
    {B : Nat} {l : List α} (ys : List α) {v : Value} (hs : a.eval s = v) (h : Own B w l v) (m c : Nat) (hx : a.eval x = .slice (some ⟨w.heap.size, 0, none⟩) m c) (hm : ys.length = m)
    (hB : B ≤ w.heap.size) (hbig : l.length + ys.length ≤ 4194304) {cs : List Value} {W : World} (hW : W = w.alloc (.cells cs.toArray e')) (hcs : OwnL W [] ys cs)
    (hk : ∀ v' w', Own B w' (l ++ ys) v' → Below B w w' → wpList P ops Q rest (a.put o.dst v') w') : wpList P ops Q (o :: rest) a W := by
  subst hW
  obtain ⟨fp, h1, h2, h3⟩ := h
  refine wpList_app hgd s x t ho e i z ht hi hz hsize hby hzs (fp := fp) (fq := []) (ys := ys) (news := cs) hs (h1.upd (Upd.alloc [] w _) (by simp)) _ m c hx hm hcs ?_ hbig (by simpa using h2) ?_
  · intro j u hj
    rw [Addr.add_lit, cell_of_row _ w.heap.size (0 + j) cs.toArray e' (0, 0) (heap_alloc_new w _)]
    simpa using hj
  · intro v' w' fp' k1 k2 k3 k4
    refine hk v' w' ⟨fp', k1, k3, fun b hb => ?_⟩ (((Below.refl _ _).alloc hB _).trans (k2.below (by simp; omega) h3))
    rcases k4 b hb with h | h | h
    · exact h3 b h
    · cases h
    · simp at h; omega
theorem own_two {α : Type} [One α] {w : World} {x y : Value} {a b : α} (hx : x = One.val a) (hy : y = One.val b) : OwnL w [] [a, b] [x, y] := by
  subst hx hy
  exact ⟨[], [], [One.val a], [One.val b], rfl, rfl, Flat.own_iff.2 ⟨rfl, (One.enc_val a).symm⟩, [], [], [One.val b], [], rfl, rfl, Flat.own_iff.2 ⟨rfl, (One.enc_val b).symm⟩, rfl, rfl⟩
#print axioms wpList_app1
#print axioms wpList_mk
#print axioms OwnS.store1
end Go.Proofs.YtlploojfcmcckaaDoor
