/- Contracts of functions of the program. No conditions beyond those that each states. -/
import Derived.Test.YtfbefcmeghpalaaVmE
import Derived.Test.YtfbefcmeghpalaaProg
import Derived.Shelf.RegionOpenPlain
import Derived.WalkKit
import Derived.Deep.LoopGhost
import Derived.Deep.RegionLaw
import Derived.Lib.Walk
import Derived.Sort.WalkB12
import Derived.Lib.SliceRun
import Derived.Lib.SlicesDelete
import Derived.Shelf.Spec.SlicesInsertGrow
set_option linter.all false
namespace Go.Proofs.Ytfbefcmeghpalaa.VM
open Go Go.RowKit Go.Lib Go.Sort Go.Proofs
set_option maxRecDepth 1000000 in
theorem ovl_74 (w : World) (vb voff b o la ca lb cb vsz sz : Nat) (hne : vb ≠ b) (hK2 : Kd w vb vsz) (hK : Kd w b sz) (h0 : 0 < sz) :
  (callFunc 97 #[.slice (some ⟨vb, voff, none⟩) la ca, .slice (some ⟨b, o, none⟩) lb cb]).run Try.prog w = .ok (.value (.bool false)) w := by
 obtain ⟨tA, hA⟩ := hK2.shape
 obtain ⟨tB, hB⟩ := hK.shape
 rw [run_callFunc_extern (P := Try.prog) (f := 97) (fn := Try.f97) Try.func97 (by kernel_rfl) (by kernel_rfl) (by kernel_rfl) (e := Extern.SlicesOverlaps.overlaps #[35, 35] #[4]) (by kernel_rfl),
  Lib.run_overlaps_apart w 35 4 3 Try.underlying35 1 (fun _ => by rfl) ⟨vb, voff, none⟩ ⟨b, o, none⟩ la ca lb cb hne tA tB vsz sz hA hB (by omega) (hK2.frozen _) (hK2.frozen _)]
 rfl
set_option maxHeartbeats 8000000 in
set_option maxRecDepth 1000000 in
theorem ins_74 : InsRun Try.prog 74 1 := by
 intro b off cap sz l i vb voff vcap vsz V U a w hV hU hcap hK2 hsz2 hvc hne hlc hcm hil hl
 obtain ⟨i0, z, hi0, hz0, hzs, hzb, hzc⟩ : ∃ i z, Try.prog.info? 3 = some i ∧ i.zero = some z ∧ i.size = 1 ∧ i.bytes = 8 ∧ z.cells.size = 1 := ⟨Try.t3, _, by kernel_rfl, rfl, rfl, rfl, rfl⟩
 obtain ⟨cs, hcs⟩ : ∃ cs, cs = (List.range (l * 1)).map fun t => V (t / 1) (t % 1) := ⟨_, rfl⟩
 obtain ⟨vs, hvs⟩ : ∃ vs, vs = (List.range 1).map U := ⟨_, rfl⟩
 have hcl : cs.length = l * 1 := by rw [hcs]; simp
 have hvl : vs.length = 1 := by rw [hvs]; simp
 have hcg : ∀ t, t < l * 1 → cs[t]? = some (V (t / 1) (t % 1)) := fun t h => by rw [hcs, List.getElem?_map, List.getElem?_range h]; rfl
 have hvg : ∀ t, t < 1 → vs[t]? = some (U t) := fun t h => by rw [hvs, List.getElem?_map, List.getElem?_range h]; rfl
 have hlt : ∀ {α : Type} {l : List α} {t : Nat} {u : α}, l[t]? = some u → t < l.length := fun {_ l t _} h => by
  rcases Nat.lt_or_ge t l.length with h' | h'
  ·exact h'
  ·rw [List.getElem?_eq_none h'] at h; cases h
 have hcw : ∀ t u, cs[t]? = some u → w.cell? ⟨b, off + t, none⟩ = some u ∧ u.oneCell' = true := fun t u h => by
  have ht := hlt h
  rw [hcg t (by omega)] at h
  obtain rfl := Option.some.inj h
  have := hV (t / 1) (t % 1) (by omega) (by omega)
  rwa [show t / 1 * 1 + t % 1 = t by omega] at this
 have hvw : ∀ t u, vs[t]? = some u → w.cell? ⟨vb, voff + t, none⟩ = some u ∧ u.oneCell' = true := fun t u h => by
  have ht := hlt h
  rw [hvg t (by omega)] at h
  obtain rfl := Option.some.inj h
  exact hU t (by omega)
 have h1c : ∀ v ∈ cs, v.oneCell' = true := fun v h => by obtain ⟨t, ht⟩ := List.getElem?_of_mem h; exact (hcw t v ht).2
 have h1v : ∀ v ∈ vs, v.oneCell' = true := fun v h => by obtain ⟨t, ht⟩ := List.getElem?_of_mem h; exact (hvw t v ht).2
 have hvbw : vb < w.heap.size := hK2.lt
 have hsrc : Src Try.prog i0.size 35 (.slice (some ⟨vb, voff, none⟩) 1 vcap) 1 vs w := by
  rw [hzs]
  exact Src.ofSlice w Try.underlying35 ⟨vb, voff, none⟩ 1 vcap vs (by omega) (fun j u hj => by rw [Addr.add_lit]; exact (hvw j u hj).1) h1v
 have mixed : Try.prog.follows .mixedOrders = true := rfl
 have hsz : ∀ w, (sizeOf 3).run Try.prog w = .ok 1 w := fun _ => by rfl
 simp only [maxLen] at hcm
 have hz1 : ¬ (((1 : Nat) : Int) = 0) := by omega
 rcases Nat.lt_or_ge i l with hlt' | hge
 ·have hc0 : 0 < cap := by omega
  obtain ⟨rfl, hK, hsz'⟩ := hcap hc0
  have hvb := hne hc0
  have hz2 : ¬ ((i : Int) = (l : Int)) := by omega
  have hw1 : IntKind.i64.wrap ((i : Int) + 1) = (i : Int) + 1 := by rw [IntKind.wrap_i64]; omega
  have hb1 : (0 : Int) ≤ (i : Int) + 1 := by omega
  have hin : i ≤ l := by omega
  have htn : ((i : Int) + 1).toNat = i + 1 := by omega
  have hb4 : ¬ (cap = i) := by omega
  have hdl : (cs.drop (i)).length = (l - i) * 1 := by rw [List.length_drop, hcl]; omega
  have hdg : ∀ t, t < (l - i) * 1 → (cs.drop (i))[t]? = some (V ((i + t) / 1) ((i + t) % 1)) := fun t h => by rw [List.getElem?_drop]; exact hcg _ (by omega)
  rcases Nat.lt_or_ge cap (l + 1) with hfull | hroom
  ·-- a new row
   obtain rfl : cap = l := by omega
   have hik : i + (cap + 1 - i) = cap + 1 := by omega
   have hkk : (cap : Int) + 1 - (i : Int) = ((cap + 1 - i : Nat) : Int) := by omega
   have hold : (Builtin.firstCells i0.size i (.slice (some ⟨b, off, none⟩) i cap)).run Try.prog w.drew = .ok (cs.take (i)).toArray w.drew := by
    rw [hzs]
    exact run_firstCells_some (w := w.drew) 1 i ⟨b, off, none⟩ i cap (cs.take (i)) (by rw [List.length_take]; omega) (fun j v hj => by
     rw [Addr.add_lit]
     rw [List.getElem?_take] at hj
     split at hj
     ·exact (hcw j v hj).1
     ·cases hj)
   obtain ⟨g, hg⟩ : ∃ g, g = grownCap w (cap + 1) cap 3 := ⟨_, rfl⟩
   have hgn : cap + 1 ≤ g := hg ▸ grownCap_ge w _ _ _
   have hgm : g ≤ maxLen := hg ▸ grownCap_le_maxLen w (cap + 1) cap 3 (by simp only [maxLen]; omega)
   obtain ⟨R, hR⟩ : ∃ R : Array Value, R = (cs.take (i)).toArray ++ Builtin.zeroCells z.cells (cap + 1 - i) ++ Builtin.zeroCells z.cells (g - (cap + 1)) := ⟨_, rfl⟩
   have hRs : R.size = g * 1 := by rw [hR]; simp [Builtin.zeroCells, hzc, hcl]; omega
   have hrz : ∀ ty, (Builtin.append_ #[35, 3] ty #[.slice (some ⟨b, off, none⟩) i cap, .int .i64 ((cap : Int) + 1 - (i : Int))]).run Try.prog w = .ok (.slice (some ⟨w.heap.size, 0, none⟩) (cap + 1) g) (w.drew.alloc (.cells R 3)) := fun ty => by
    have h := Lib.run_append_grow_zeros (P := Try.prog) w 35 3 ty 3 i0 z .i64 .i64 Try.underlying35 Try.underlying3 hi0 hz0 (some ⟨b, off, none⟩) i cap (cs.take (i)) hold (cap + 1 - i) (by omega) (by omega) (by omega) (by omega) (by rw [hzb]; omega) (by rw [hzb, hik]; exact growslice_fits (by omega) (by omega))
    rw [hik, ← hg, ← hR] at h
    rw [hkk]
    exact h
   obtain ⟨N, hN⟩ : ∃ N, N = w.heap.size := ⟨_, rfl⟩
   rw [← hN] at hrz
   obtain ⟨W1, hW1⟩ : ∃ W1, W1 = w.drew.alloc (.cells R 3) := ⟨_, rfl⟩
   rw [← hW1] at hrz
   have hKn : Kd W1 N (g * 1) := by rw [hW1, hN]; exact ⟨R, 3, Array.getElem?_push_size, hRs⟩
   have hC1 : Chg (fun _ _ => False) w W1 := by rw [hW1]; exact (Chg.drew _).trans (Chg.alloc _ _ _)
   have hbN : b ≠ N := by have := hK.lt; omega
   have hvN : vb ≠ N := by omega
   have hcpA : ∀ (W : World), (∀ x, W.cell? x = W1.cell? x) → (∀ x, W.frozen? x = W1.frozen? x) → ∀ ty dc, (Builtin.copy_ #[35, 35] ty #[.slice (some ⟨N, i, none⟩) (cap + 1 - i) dc, .slice (some ⟨vb, voff, none⟩) 1 vcap]).run Try.prog W = .ok (goInt (Nat.min 1 (cap + 1 - i))) (W.setCells N (i) vs) := fun W hWc hWf ty dc =>
    run_copy_n 35 35 ty 3 N (i) (cap + 1 - i) dc ⟨vb, voff, none⟩ 1 vcap 1 vs Try.underlying35 hsz (by rw [hvl]; simp only [Nat.min_def]; split <;> omega)
     (fun j v hj => by rw [Addr.add_lit, hWc]; exact hC1.cell (hvw j v hj).1 id)
     (fun j hj => by rw [hWc]; exact hKn.cell (by omega)) (fun j hj => by rw [hWf]; exact hKn.frozen _) h1v
   obtain ⟨W2, hW2⟩ : ∃ W2, W2 = W1.setCells N (i) vs := ⟨_, rfl⟩
   have hC2 : Chg (blkFP N) W1 W2 := by rw [hW2]; exact Chg.setCells fun _ _ => rfl
   have hKn2 := hKn.chg hC2
   have hcpB : ∀ (W : World), (∀ x, W.cell? x = W2.cell? x) → (∀ x, W.frozen? x = W2.frozen? x) → ∀ ty dc sc, (Builtin.copy_ #[35, 35] ty #[.slice (some ⟨N, (i + 1), none⟩) (cap - i) dc, .slice (some ⟨b, off + i, none⟩) (cap - i) sc]).run Try.prog W = .ok (goInt (Nat.min (cap - i) (cap - i))) (W.setCells N ((i + 1)) (cs.drop (i))) := fun W hWc hWf ty dc sc =>
    run_copy_n 35 35 ty 3 N ((i + 1)) (cap - i) dc ⟨b, off + i, none⟩ (cap - i) sc 1 (cs.drop (i)) Try.underlying35 hsz (by rw [hdl]; simp only [Nat.min_def]; split <;> omega)
     (fun j v hj => by
      rw [Addr.add_lit, hWc, hW2, World.cell?_setCells_out _ _ _ _ _ (fun h _ => absurd h hbN), Nat.add_assoc]
      rw [List.getElem?_drop] at hj
      exact hC1.cell (hcw _ v hj).1 id)
     (fun j hj => by rw [hWc]; exact hKn2.cell (by omega)) (fun j hj => by rw [hWf]; exact hKn2.frozen _) (fun v hv => h1c v (List.mem_of_mem_drop hv))
   have hfin : Hid (∀ (w2 w' : World), (∀ x, w2.cell? x = W2.cell? x) → Chg (blkFP N) W1 w2 → w' = w2.setCells N ((i + 1)) (cs.drop (i)) → ∃ b' off' cap' sz', (.slice (some ⟨N, 0, none⟩) (cap + 1) g : Value) = (.slice (some ⟨b', off', none⟩) (cap + 1) cap') ∧ cap + 1 ≤ cap' ∧ cap' ≤ maxLen ∧ Kd w' b' sz' ∧ off' + cap' * 1 ≤ sz' ∧ ((0 < cap ∧ b' = b) ∨ w.heap.size ≤ b') ∧ Chg (fun x _ => 0 < cap ∧ x = b) w w' ∧
     ∀ k c, k < cap + 1 → c < 1 → w'.cell? ⟨b', off' + (k * 1 + c), none⟩ = some (if k < i then V k c else if k = i then U c else V (k - 1) c)) := by
    rintro w2 w' hw2 hCw rfl
    have hC3 : Chg (blkFP N) W1 (w2.setCells N ((i + 1)) (cs.drop (i))) := hCw.trans (Chg.setCells fun _ _ => rfl)
    refine ⟨N, 0, g, g * 1, rfl, hgn, hgm, hKn.chg hC3, by omega, .inr (by omega), Chg.step (hC1.mono fun _ _ _ h => h.elim) hC3 fun a o ha (h : a = N) => absurd ha (by omega), fun k c hk hc => ?_⟩
    by_cases q1 : k < i
    ·rw [if_pos q1, World.cell?_setCells_out N _ _ w2 _ fun _ _ => by show 0 + (k * 1 + c) < (i + 1) ∨ _; left; omega, hw2, hW2, World.cell?_setCells_out N vs _ W1 _ fun _ _ => by show 0 + (k * 1 + c) < i ∨ _; left; omega, hW1,
      World.cell?_alloc_at (w := w.drew) R _ N _ hN, hR, Array.getElem?_append_left (by simp [Builtin.zeroCells, hzc, hcl]; omega), Array.getElem?_append_left (by simp; omega)]
     rw [List.getElem?_toArray, List.getElem?_take_of_lt (by omega), hcg _ (by omega)]
     congr 2 <;> omega
    ·rw [if_neg q1]
     by_cases q2 : k = i
     ·subst q2
      rw [if_pos rfl, World.cell?_setCells_out N _ _ w2 _ fun _ _ => by show 0 + (k * 1 + c) < (k + 1) ∨ _; left; omega, hw2, hW2]
      have := World.cell?_setCells_in N vs k W1 (fun t ht => hKn.cell (by omega)) c (by omega)
      rw [show k + c = 0 + (k * 1 + c) by omega] at this
      rw [this]
      exact (List.getElem?_eq_getElem _).symm.trans (hvg c hc)
     ·rw [if_neg q2]
      have := World.cell?_setCells_in N (cs.drop (i)) ((i + 1)) w2 (fun t ht => by rw [hw2]; exact hKn2.cell (by omega)) ((k - (i + 1)) * 1 + c) (by omega)
      rw [show (i + 1) + ((k - (i + 1)) * 1 + c) = 0 + (k * 1 + c) by omega] at this
      rw [this, ← List.getElem?_eq_getElem, hdg _ (by omega)]
      congr 2 <;> omega
   have hE : Hid (∀ x, W2.drew.cell? x = W2.cell? x) := fun _ => rfl
   have hCd : Hid (Chg (blkFP N) W1 W2.drew) := hC2.trans (Chg.drew _)
   have hz3 : (cap : Int) < (cap : Int) + 1 := by omega
   have hGi : ¬ (g = i) := by omega
   have hGim : ¬ (g = i + 1) := by omega
   have hg63 : g ≤ 9223372036854775807 := by simp only [maxLen] at hgm; omega
   have hb3 : (i : Int) ≤ (cap : Int) := by omega
   clear hcs hvs hcl hvl hcg hvg hlt hcw hvw h1c h1v hsrc hdl hdg hK hV hU hcap hK2 hsz' hsz2 hi0 hz0 hzs hzb hzc hold hkk hik hg hR hRs hKn hKn2 hC1 hC2 hgm hN hvbw
   have hcpA' := hcpA W1 (fun _ => rfl) (fun _ => rfl)
   rw [← hW2] at hcpA'
   have hcpB' := hcpB W2.drew (fun _ => rfl) (fun _ => rfl)
   clear hcpA hcpB hW1 hW2
   go_enter Try.func74, Try.ntmps74
   go_wp2_with (first
    | (at_builtin; refine Lib.wpList_append_run _ rfl _ _ _ _ rfl _ _ rfl rfl _ _ (hrz _) ?_)
    | (at_builtin; refine wpList_copy_runI _ rfl _ _ 35 35 rfl _ _ rfl rfl (hcpA' _ _) ?_))
   go_region_law_o (refine step_copy_runI rfl _ _ 35 35 rfl _ _ (by simp [Act.eval, Act.put]) (by simp [Act.eval, Act.put]) (hcpB' _ _ _) ?_)
   go_wp2
   go_ret
   exact (let ⟨b', off', cap', sz', e, h⟩ := hfin.out _ _ hE.out hCd.out rfl; ⟨b', off', cap', sz', congrArg Ending.returned e, h⟩)
  ·-- in place
   have hov : ∀ o lb cb, (callFunc 97 #[.slice (some ⟨vb, voff, none⟩) 1 vcap, .slice (some ⟨b, o, none⟩) lb cb]).run Try.prog w = .ok (.value (.bool false)) w := fun o lb cb => ovl_74 w vb voff b o 1 vcap lb cb vsz sz hvb hK2 hK (by omega)
   have hb2 : ¬ (cap = i + 1) := by omega
   have hb3 : (i : Int) ≤ (l : Int) + 1 := by omega
   have hcp1 : ∀ ty dc sc, (Builtin.copy_ #[35, 35] ty #[.slice (some ⟨b, off + (i + 1), none⟩) (l - i) dc, .slice (some ⟨b, off + i, none⟩) (l + 1 - i) sc]).run Try.prog w.drew = .ok (goInt (Nat.min (l + 1 - i) (l - i))) (w.drew.setCells b (off + (i + 1)) (cs.drop (i))) := fun ty dc sc =>
    run_copy_n 35 35 ty 3 b (off + (i + 1)) (l - i) dc ⟨b, off + i, none⟩ (l + 1 - i) sc 1 (cs.drop (i)) Try.underlying35 hsz (by rw [hdl]; simp only [Nat.min_def]; split <;> omega)
     (fun j v hj => by rw [Addr.add_lit, Nat.add_assoc]; rw [List.getElem?_drop] at hj; exact (hcw _ v hj).1)
     (fun j hj => hK.cell (by omega)) (fun j hj => hK.frozen _) (fun v hv => h1c v (List.mem_of_mem_drop hv))
   obtain ⟨W1, hW1⟩ : ∃ W1, W1 = w.drew.setCells b (off + (i + 1)) (cs.drop (i)) := ⟨_, rfl⟩
   have hC1 : Chg (blkFP b) w W1 := by rw [hW1]; exact (Chg.drew w).trans (Chg.setCells fun _ _ => rfl)
   have hK1 := hK.chg hC1
   have hcp2 : ∀ (W : World), (∀ x, W.cell? x = W1.cell? x) → (∀ x, W.frozen? x = W1.frozen? x) → ∀ ty dc, (Builtin.copy_ #[35, 35] ty #[.slice (some ⟨b, off + i, none⟩) (l + 1 - i) dc, .slice (some ⟨vb, voff, none⟩) 1 vcap]).run Try.prog W = .ok (goInt (Nat.min 1 (l + 1 - i))) (W.setCells b (off + i) vs) := fun W hWc hWf ty dc =>
    run_copy_n 35 35 ty 3 b (off + i) (l + 1 - i) dc ⟨vb, voff, none⟩ 1 vcap 1 vs Try.underlying35 hsz (by rw [hvl]; simp only [Nat.min_def]; split <;> omega)
     (fun j v hj => by
      rw [Addr.add_lit, hWc, hW1, World.cell?_setCells_out b _ _ _ _ (fun h _ => absurd h hvb)]
      exact (hvw j v hj).1)
     (fun j hj => by rw [hWc]; exact hK1.cell (by omega)) (fun j hj => by rw [hWf]; exact hK1.frozen _) h1v
   rw [← hW1] at hcp1
   have hfin : Hid (∀ w', w' = W1.setCells b (off + i) vs → ∃ b' off' cap' sz', (Value.slice (some ⟨b, off, none⟩) (l + 1) cap) = (.slice (some ⟨b', off', none⟩) (l + 1) cap') ∧ l + 1 ≤ cap' ∧ cap' ≤ maxLen ∧ Kd w' b' sz' ∧ off' + cap' * 1 ≤ sz' ∧ ((0 < cap ∧ b' = b) ∨ w.heap.size ≤ b') ∧ Chg (fun x _ => 0 < cap ∧ x = b) w w' ∧
     ∀ k c, k < l + 1 → c < 1 → w'.cell? ⟨b', off' + (k * 1 + c), none⟩ = some (if k < i then V k c else if k = i then U c else V (k - 1) c)) := by
    rintro w' rfl
    have hC2 : Chg (blkFP b) W1 (W1.setCells b (off + i) vs) := Chg.setCells fun _ _ => rfl
    refine ⟨b, off, cap, sz, rfl, hroom, hcm, hK1.chg hC2, hsz', .inl ⟨hc0, rfl⟩, (hC1.trans hC2).mono fun x _ _ h => ⟨hc0, h⟩, fun k c hk hc => ?_⟩
    by_cases q1 : k < i
    ·rw [if_pos q1, World.cell?_setCells_out b vs _ W1 _ fun _ _ => by show off + (k * 1 + c) < off + i ∨ _; left; omega, hW1, World.cell?_setCells_out b _ _ w.drew _ fun _ _ => by show off + (k * 1 + c) < off + (i + 1) ∨ _; left; omega]
     exact (hV k c (by omega) hc).1
    ·rw [if_neg q1]
     by_cases q2 : k = i
     ·subst q2
      rw [if_pos rfl]
      have := World.cell?_setCells_in b vs (off + k) W1 (fun t ht => hK1.cell (by omega)) c (by omega)
      rw [show off + k + c = off + (k * 1 + c) by omega] at this
      rw [this]
      exact (List.getElem?_eq_getElem _).symm.trans (hvg c hc)
     ·rw [if_neg q2, World.cell?_setCells_out b vs _ W1 _ fun _ _ => by show _ ∨ off + i + vs.length ≤ off + (k * 1 + c); right; omega, hW1]
      have := World.cell?_setCells_in b (cs.drop (i)) (off + (i + 1)) w.drew (fun t ht => hK.cell (by omega)) ((k - (i + 1)) * 1 + c) (by omega)
      rw [show off + (i + 1) + ((k - (i + 1)) * 1 + c) = off + (k * 1 + c) by omega] at this
      rw [this, ← List.getElem?_eq_getElem, hdg _ (by omega)]
      congr 2 <;> omega
   clear hcs hvs hcl hvl hcg hvg hlt hcw hvw h1c h1v hsrc hdl hdg hW1 hC1 hK1 hV hU hcap hK hK2 hsz' hsz2 hi0 hz0 hzs hzb hzc
   go_enter Try.func74, Try.ntmps74
   go_wp2_with (simp only [hov])
   go_region_law_o (refine step_copy_runI rfl _ _ 35 35 rfl _ _ (by simp [Act.eval, Act.put]) (by simp [Act.eval, Act.put]) (hcp1 _ _ _) ?_)
   go_wp2_with (at_builtin; refine wpList_copy_runI _ rfl _ _ 35 35 rfl _ _ rfl rfl (hcp2 _ (fun _ => rfl) (fun _ => rfl) _ _) ?_)
   go_ret
   exact (let ⟨b', off', cap', sz', e, h⟩ := hfin.out _ rfl; ⟨b', off', cap', sz', congrArg Ending.returned e, h⟩)
 ·obtain rfl : i = l := by omega
  rcases Nat.lt_or_ge cap (i + 1) with hfull | hroom
  ·-- at the end, no room
   obtain rfl : cap = i := by omega
   have hold : (Builtin.firstCells i0.size cap (.slice a cap cap)).run Try.prog w.drew = .ok cs.toArray w.drew := by
    rw [hzs]
    cases a with
    | none =>
     have h0 : cap = 0 := by
      rcases Nat.eq_zero_or_pos cap with h | h
      ·exact h
      ·exact absurd (hcap h).1 (by simp)
     subst h0
     rw [List.length_eq_zero_iff.1 (by omega : cs.length = 0)]
     exact run_firstCells_none (w := w.drew) 1 0 0 0
    | some ad => exact run_firstCells_some (w := w.drew) 1 cap ad cap cap cs (by omega) (fun j v hj => by
      have hj' := hlt hj
      have h := (hcap (by omega)).1
      cases h
      rw [Addr.add_lit]
      exact (hcw j v hj).1)
   obtain ⟨g, hg⟩ : ∃ g, g = grownCap w (cap + 1) cap 3 := ⟨_, rfl⟩
   have hgn : cap + 1 ≤ g := hg ▸ grownCap_ge w _ _ _
   have hgm : g ≤ maxLen := hg ▸ grownCap_le_maxLen w (cap + 1) cap 3 (by simp only [maxLen]; omega)
   obtain ⟨R, hR⟩ : ∃ R : Array Value, R = (cs ++ vs).toArray ++ Builtin.zeroCells z.cells (g - (cap + 1)) := ⟨_, rfl⟩
   have hRs : R.size = g * 1 := by rw [hR]; simp [Builtin.zeroCells, hzc, hcl, hvl]; omega
   have hrun : ∀ ty, (Builtin.append_ #[35, 35] ty #[.slice a cap cap, .slice (some ⟨vb, voff, none⟩) 1 vcap]).run Try.prog w = .ok (.slice (some ⟨w.heap.size, 0, none⟩) (cap + 1) g) (w.drew.alloc (.cells R 3)) := fun ty => by
    have h := run_append_grow_src (P := Try.prog) w 35 35 ty 3 i0 z Try.underlying35 hi0 hz0 a cap cap cs hold _ 1 vs hsrc (by omega) (by omega) (by rw [hzb]; exact growslice_fits (by omega) (by omega))
    rw [← hg, ← hR] at h
    exact h
   have hfin : Hid (∀ w', w' = w.drew.alloc (.cells R 3) → ∃ b' off' cap' sz', (.slice (some ⟨w.heap.size, 0, none⟩) (cap + 1) g : Value) = (.slice (some ⟨b', off', none⟩) (cap + 1) cap') ∧ cap + 1 ≤ cap' ∧ cap' ≤ maxLen ∧ Kd w' b' sz' ∧ off' + cap' * 1 ≤ sz' ∧ ((0 < cap ∧ b' = b) ∨ w.heap.size ≤ b') ∧ Chg (fun x _ => 0 < cap ∧ x = b) w w' ∧
     ∀ k c, k < cap + 1 → c < 1 → w'.cell? ⟨b', off' + (k * 1 + c), none⟩ = some (if k < cap then V k c else if k = cap then U c else V (k - 1) c)) := by
    rintro w' rfl
    refine ⟨w.heap.size, 0, g, g * 1, rfl, hgn, hgm, ⟨R, 3, Array.getElem?_push_size, hRs⟩, by omega, .inr (Nat.le_refl _), (Chg.drew _).trans (Chg.alloc _ _ _), fun k c hk hc => ?_⟩
    rw [World.cell?_alloc_at (w := w.drew) R _ w.heap.size _ rfl, hR, Array.getElem?_append_left (by simp [hcl, hvl]; omega), List.getElem?_toArray]
    by_cases q1 : k < cap
    ·rw [if_pos q1, List.getElem?_append_left (by omega), hcg _ (by omega)]
     congr 2 <;> omega
    ·obtain rfl : k = cap := by omega
     rw [if_neg q1, if_pos rfl, List.getElem?_append_right (by omega), show 0 + (k * 1 + c) - cs.length = c by omega]
     exact hvg c hc
   clear hcs hvs hcl hvl hcg hvg hlt hcw hvw h1c h1v hsrc hV hU hcap hK2 hsz2 hi0 hz0 hzs hzb hzc hold hg hR hRs hgm hgn hvbw hge
   cases a with
   | none =>
    go_enter Try.func74, Try.ntmps74
    go_wp2_with (at_builtin; refine Lib.wpList_append_run _ rfl _ _ _ _ rfl _ _ rfl rfl _ _ (hrun _) ?_)
    all_goals (go_ret; exact (let ⟨b', off', cap', sz', e, h⟩ := hfin.out _ rfl; ⟨b', off', cap', sz', congrArg Ending.returned e, h⟩))
   | some ad =>
    obtain ⟨ab, ao, asp⟩ := ad
    go_enter Try.func74, Try.ntmps74
    go_wp2_with (at_builtin; refine Lib.wpList_append_run _ rfl _ _ _ _ rfl _ _ rfl rfl _ _ (hrun _) ?_)
    all_goals (go_ret; exact (let ⟨b', off', cap', sz', e, h⟩ := hfin.out _ rfl; ⟨b', off', cap', sz', congrArg Ending.returned e, h⟩))
  ·-- at the end, room
   have hc0 : 0 < cap := by omega
   obtain ⟨rfl, hK, hsz'⟩ := hcap hc0
   have hrun : ∀ ty, (Builtin.append_ #[35, 35] ty #[.slice (some ⟨b, off, none⟩) i cap, .slice (some ⟨vb, voff, none⟩) 1 vcap]).run Try.prog w = .ok (.slice (some ⟨b, off, none⟩) (i + 1) cap) (w.setCells b (off + i) vs) := fun ty => by
    have h := run_append_room_src (P := Try.prog) w 35 35 ty 3 i0 Try.underlying35 hi0 b off i cap _ 1 vs hsrc hroom (fun j hj => hK.cell (by rw [hzs]; omega)) (fun j hj => hK.frozen _)
    rw [hzs] at h
    simpa only [Nat.mul_one] using h
   have hfin : Hid (∀ w', w' = w.setCells b (off + i) vs → ∃ b' off' cap' sz', (.slice (some ⟨b, off, none⟩) (i + 1) cap : Value) = (.slice (some ⟨b', off', none⟩) (i + 1) cap') ∧ i + 1 ≤ cap' ∧ cap' ≤ maxLen ∧ Kd w' b' sz' ∧ off' + cap' * 1 ≤ sz' ∧ ((0 < cap ∧ b' = b) ∨ w.heap.size ≤ b') ∧ Chg (fun x _ => 0 < cap ∧ x = b) w w' ∧
     ∀ k c, k < i + 1 → c < 1 → w'.cell? ⟨b', off' + (k * 1 + c), none⟩ = some (if k < i then V k c else if k = i then U c else V (k - 1) c)) := by
    rintro w' rfl
    have hC2 : Chg (blkFP b) w (w.setCells b (off + i) vs) := Chg.setCells fun _ _ => rfl
    refine ⟨b, off, cap, sz, rfl, hroom, hcm, hK.chg hC2, hsz', .inl ⟨hc0, rfl⟩, hC2.mono fun x _ _ h => ⟨hc0, h⟩, fun k c hk hc => ?_⟩
    by_cases q1 : k < i
    ·rw [if_pos q1, World.cell?_setCells_out b vs _ w _ fun _ _ => by show off + (k * 1 + c) < off + i ∨ _; left; omega]
     exact (hV k c (by omega) hc).1
    ·obtain rfl : k = i := by omega
     rw [if_neg q1, if_pos rfl]
     have := World.cell?_setCells_in b vs (off + k) w (fun t ht => hK.cell (by omega)) c (by omega)
     rw [show off + k + c = off + (k * 1 + c) by omega] at this
     rw [this]
     exact (List.getElem?_eq_getElem _).symm.trans (hvg c hc)
   clear hcs hvs hcl hvl hcg hvg hlt hcw hvw h1c h1v hsrc hV hU hcap hK2 hsz2 hi0 hz0 hzs hzb hzc hK hsz' hvbw hge
   go_enter Try.func74, Try.ntmps74
   go_wp2_with (at_builtin; refine Lib.wpList_append_run _ rfl _ _ _ _ rfl _ _ rfl rfl _ _ (hrun _) ?_)
   all_goals (go_ret; exact (let ⟨b', off', cap', sz', e, h⟩ := hfin.out _ rfl; ⟨b', off', cap', sz', congrArg Ending.returned e, h⟩))

end Go.Proofs.Ytfbefcmeghpalaa.VM
