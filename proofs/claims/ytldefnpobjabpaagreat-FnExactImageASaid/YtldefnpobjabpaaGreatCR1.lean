/- Contracts. No conditions. -/
import Derived.Test.YtldefnpobjabpaaGreatCU5
import Derived.Test.YtldefnpobjabpaaGreatCQ15
set_option linter.all false
set_option maxHeartbeats 8000000
set_option maxRecDepth 10000
namespace Go.Proofs.YtldefnpobjabpaaGreat.VM
open Go Go.RowKit Go.Proofs
def markF (l : List Bool) (f : Int) : Option (List Bool) := if l.getD f.toNat En.dflt = true then none else some (l.set f.toNat true)
def pgK (pt : List Int) (u : List Bool) : Nat → Option (List Bool)
 | 0 => some u
 | k + 1 => (pgK pt u k).bind fun v => markF v (pt.getD k En.dflt)
def slotU (u : List Bool) (s : DASlot) : Option (List Bool) := if ((s.Pt.drop (pagesN s.Pt)).all fun x => x == -1) = true then pgK s.Pt u (pagesN s.Pt) else none
def usedK (a : DArrays) : Nat → Option (List Bool)
 | 0 => some (List.replicate 16 false)
 | k + 1 => (usedK a k).bind fun u => slotU u (a.Slots.getD k En.dflt)
def usedOk (a : DArrays) : Bool := match usedK a a.Slots.length with | some u => decide (u = a.Map) | none => false
def aOk (a : DArrays) : Bool := shapeA a && (unixOk (absU a) && usedOk a)
theorem usedK_none {a : DArrays} {k : Nat} (h : usedK a k = none) : ∀ {n : Nat}, k ≤ n → usedK a n = none := fun {n} hn => by
 induction n with
 | zero =>
  obtain rfl : k = 0 := by omega
  exact h
 | succ n ih =>
  rcases Nat.lt_or_ge n k with h1 | h1
  ·obtain rfl : k = n + 1 := by omega
   exact h
  ·rw [usedK, ih h1]; rfl
theorem pgK_none {pt : List Int} {u : List Bool} {k : Nat} (h : pgK pt u k = none) : ∀ {n : Nat}, k ≤ n → pgK pt u n = none := fun {n} hn => by
 induction n with
 | zero =>
  obtain rfl : k = 0 := by omega
  exact h
 | succ n ih =>
  rcases Nat.lt_or_ge n k with h1 | h1
  ·obtain rfl : k = n + 1 := by omega
   exact h
  ·rw [pgK, ih h1]; rfl
structure UInv (a : DArrays) where
 k : Nat
 le : k ≤ a.Slots.length
 u : List Bool
 hu : usedK a k = some u
 ln : u.length = 16
structure PInv (pt : List Int) (u0 : List Bool) where
 k : Nat
 le : k ≤ pt.length
 v : List Bool
 hv : pgK pt u0 (min k (pagesN pt)) = some v
 ln : v.length = 16
 tl : ∀ x, pagesN pt ≤ x → x < k → pt.getD x En.dflt = -1
structure MInv (u m : List Bool) where
 k : Nat
 le : k ≤ 16
 eq : ∀ x, x < k → u.getD x En.dflt = m.getD x En.dflt
theorem frm {pt : List Int} {k : Nat} (h : k < pagesN pt) : 0 ≤ pt.getD k En.dflt ∧ pt.getD k En.dflt ≤ 15 := by
 have := pages_get h
 simpa [isFr] using this
theorem PInv.mark {pt : List Int} {u0 : List Bool} (i : PInv pt u0) (h : i.k < pagesN pt) (hf : i.v.getD (pt.getD i.k En.dflt).toNat En.dflt = false) : pgK pt u0 (min (i.k + 1) (pagesN pt)) = some (i.v.set (pt.getD i.k En.dflt).toNat true) := by
 have h0 := i.hv
 rw [show min i.k (pagesN pt) = i.k by omega] at h0
 rw [show min (i.k + 1) (pagesN pt) = i.k + 1 by omega, pgK, h0]
 show markF i.v _ = _
 rw [markF, if_neg (by rw [hf]; simp)]
theorem PInv.keep {pt : List Int} {u0 : List Bool} (i : PInv pt u0) (h : pagesN pt ≤ i.k) : pgK pt u0 (min (i.k + 1) (pagesN pt)) = some i.v := by
 have h0 := i.hv
 rwa [show min i.k (pagesN pt) = min (i.k + 1) (pagesN pt) by omega] at h0
theorem PInv.tail {pt : List Int} {u0 : List Bool} (i : PInv pt u0) (h : pagesN pt ≤ i.k) (hx : pt.getD i.k En.dflt = -1) : ∀ x, pagesN pt ≤ x → x < i.k + 1 → pt.getD x En.dflt = -1 := fun x h1 h2 => by
 rcases Nat.lt_or_ge x i.k with h3 | h3
 ·exact i.tl x h1 h3
 ·obtain rfl : x = i.k := by omega
  exact hx
theorem MInv.next {u m : List Bool} (i : MInv u m) (h : u.getD i.k En.dflt = m.getD i.k En.dflt) : ∀ x, x < i.k + 1 → u.getD x En.dflt = m.getD x En.dflt := fun x hx => by
 rcases Nat.lt_or_ge x i.k with h3 | h3
 ·exact i.eq x h3
 ·obtain rfl : x = i.k := by omega
  exact h
theorem PInv.bad {s : DASlot} {u0 : List Bool} (i : PInv s.Pt u0) (h : i.k < pagesN s.Pt) (hf : i.v.getD (s.Pt.getD i.k En.dflt).toNat En.dflt = true) : slotU u0 s = none := by
 have h0 := i.hv
 rw [show min i.k (pagesN s.Pt) = i.k by omega] at h0
 unfold slotU
 split
 ·refine pgK_none (k := i.k + 1) ?_ (by omega)
  rw [pgK, h0]
  show markF i.v _ = _
  rw [markF, if_pos hf]
 ·rfl
theorem tail_all {pt : List Int} {n : Nat} (h : ∀ x, n ≤ x → x < pt.length → pt.getD x En.dflt = -1) : ((pt.drop n).all fun x => x == -1) = true := by
 rw [List.all_eq_true]
 intro y hy
 obtain ⟨j, hj, rfl⟩ := List.mem_iff_getElem.1 hy
 rw [List.length_drop] at hj
 have := h (n + j) (by omega) (by omega)
 rw [List.getD_eq_getElem?_getD, List.getElem?_eq_getElem (by omega)] at this
 rw [List.getElem_drop]
 simpa using this
theorem tail_bad {pt : List Int} {n x : Nat} (h1 : n ≤ x) (h2 : x < pt.length) (h : pt.getD x En.dflt ≠ -1) : ((pt.drop n).all fun x => x == -1) = false := by
 cases hb : (pt.drop n).all fun x => x == -1 with
 | false => rfl
 | true =>
  rw [List.all_eq_true] at hb
  have hm : (pt.drop n)[x - n]'(by rw [List.length_drop]; omega) ∈ pt.drop n := List.getElem_mem _
  have := hb _ hm
  rw [List.getElem_drop] at this
  rw [List.getD_eq_getElem?_getD, List.getElem?_eq_getElem h2] at h
  simp only [show n + (x - n) = x by omega] at this
  simp at this h
  exact absurd this h
theorem slot_tail {s : DASlot} {u0 : List Bool} {x : Nat} (h1 : pagesN s.Pt ≤ x) (h2 : x < s.Pt.length) (h : s.Pt.getD x En.dflt ≠ -1) : slotU u0 s = none := if_neg (by rw [tail_bad h1 h2 h]; simp)
theorem PInv.full {s : DASlot} {u0 : List Bool} (i : PInv s.Pt u0) (h : s.Pt.length ≤ i.k) : slotU u0 s = some i.v := by
 have h0 := i.hv
 have := pagesN_le s.Pt
 rw [show min i.k (pagesN s.Pt) = pagesN s.Pt by omega] at h0
 exact (if_pos (tail_all fun x h1 h2 => i.tl x h1 (by omega))).trans h0
theorem pg_getD {pt : List Int} {k : Nat} (h : k < pagesN pt) : (pt.takeWhile isFr).getD k En.dflt = pt.getD k En.dflt := by
 rw [← pages_take, List.getD_eq_getElem?_getD, List.getElem?_take, if_pos h, List.getD_eq_getElem?_getD]
theorem PInv.fullI {s : DASlot} {u0 : List Bool} (i : PInv s.Pt u0) (h : pagesN s.Pt ≤ i.k) (ht : ((s.Pt.drop (pagesN s.Pt)).all fun x => x == -1) = true) : slotU u0 s = some i.v := by
 have h0 := i.hv
 rw [show min i.k (pagesN s.Pt) = pagesN s.Pt by omega] at h0
 exact (if_pos ht).trans h0
theorem slot_tail' {s : DASlot} {u0 : List Bool} (ht : ((s.Pt.drop (pagesN s.Pt)).all fun x => x == -1) = false) : slotU u0 s = none := if_neg (by rw [ht]; simp)
theorem used_next {a : DArrays} {k : Nat} {u : List Bool} (h : usedK a k = some u) : usedK a (k + 1) = slotU u (a.Slots.getD k En.dflt) := by rw [usedK, h]; rfl
theorem aOk_shape {a : DArrays} (h : shapeA a = false) : aOk a = false := by rw [aOk, h]; rfl
theorem aOk_unix {a : DArrays} (h : unixOk (absU a) = false) : aOk a = false := by rw [aOk, h]; simp
theorem aOk_none {a : DArrays} {k : Nat} (h : usedK a k = none) (hk : k ≤ a.Slots.length) : aOk a = false := by
 rw [aOk, usedOk, usedK_none h hk]; simp
theorem aOk_some {a : DArrays} {u : List Bool} (hs : shapeA a = true) (hU : unixOk (absU a) = true) (h : usedK a a.Slots.length = some u) : aOk a = decide (u = a.Map) := by
 rw [aOk, usedOk, h, hs, hU]; rfl
theorem MInv.full {u m : List Bool} (i : MInv u m) (hk : 16 ≤ i.k) (hu : u.length = 16) (hm : m.length = 16) : u = m := by
 refine List.ext_getElem (by omega) fun n h1 h2 => ?_
 have := i.eq n (by omega)
 rwa [List.getD_eq_getElem?_getD, List.getElem?_eq_getElem h1, List.getD_eq_getElem?_getD, List.getElem?_eq_getElem h2] at this
theorem unixB_abs {a : DArrays} (hS : ShpA a) : unixB (absU a) := by
 have h0 : Mk.wt (absU a).Procs ≤ 180 := by
  show Mk.wt (sortK DProc.Pid (procsK a a.Slots.length)) ≤ 180
  rw [wt_sort]
  have := procsK_wt hS _ (Nat.le_refl _)
  have := hS.slots
  omega
 have h1 := wt_list (absU a).Procs
 have h3 : memN (absU a).Procs (absU a).Procs.length ≤ cumN Mk.wt En.dflt (absU a).Procs (absU a).Procs.length := cumN_le (fun x => by
  have : Mk.wt x = Mk.wt x.Cpu.Regs + Mk.wt x.Mem + Mk.wt x.Fds := rfl
  have := wt_list x.Mem
  omega) _
 have h4 : fdsN (absU a) (absU a).Procs.length ≤ cumN Mk.wt En.dflt (absU a).Procs (absU a).Procs.length := cumN_le (fun x => by
  have : Mk.wt x = Mk.wt x.Cpu.Regs + Mk.wt x.Mem + Mk.wt x.Fds := rfl
  have := wt_list x.Fds
  omega) _
 rw [cumN_wt] at h3 h4
 have h5 : (absU a).Opens.length ≤ a.Opens.length := opensK_le _
 have h6 : ((absU a).Ready.length : Int) ≤ 6 := dataL_lenLe hS.ready
 have := hS.opens
 exact ⟨by omega, by omega, by omega, by omega, by omega⟩
theorem map_len {a : DArrays} (h : shapeA a = true) : a.Map.length = 16 := by
 unfold shapeA at h
 rw [Bool.and_eq_true] at h
 have h1 := h.1
 simp only [headA, Bool.and_eq_true, beq_iff_eq] at h1
 omega
end Go.Proofs.YtldefnpobjabpaaGreat.VM
