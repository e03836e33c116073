/- Contracts. No conditions. -/
import Derived.Test.YthjfgpkjooaahaaGreatCLB
import Derived.Test.YthjfgpkjooaahaaGreatCLF
set_option linter.all false
set_option maxHeartbeats 8000000
set_option maxRecDepth 10000
namespace Go.Proofs.YthjfgpkjooaahaaGreat.VM
open Go Go.RowKit Go.Proofs
def noneD : DArrays := { Next := 0, Tick := 0, Progs := [], Slots := List.replicate 6 noSlotD, Ram := List.replicate 64 0, Map := List.replicate 16 false, Opens := List.replicate 8 noOpenD, Pipes := List.replicate 3 (ringD false 4 [] 0), Files := List.replicate 6 noFileD, Ready := ringD false 6 [] 0, Out := [] }
def procD (u : DUnix) (i : Nat) : DArrays := { noneD with Next := u.Next, Tick := u.Tick, Progs := u.Progs, Out := u.Out, Slots := slotsD u i, Ram := ramA (memsD u i), Map := mapA (pagesU u.Procs i) }
def atP (u : DUnix) (i : Nat) : DProc := u.Procs.getD i En.dflt
def pagD (u : DUnix) (i j : Nat) : DArrays := { procD u i with Ram := ramA (memsD u i ++ (atP u i).Mem.take (4 * j)), Map := mapA (pagesU u.Procs i + j) }
def midD (u : DUnix) (i j : Nat) : DArrays := { pagD u i j with Slots := (slotsD u i).set i (slotD (atP u i) (pagesU u.Procs i) j) }
def opD (u : DUnix) (i : Nat) : DArrays := { procD u u.Procs.length with Opens := opensD u i }
def piD (u : DUnix) (i : Nat) : DArrays := { opD u u.Opens.length with Pipes := pipesD u i }
def pjD (u : DUnix) (i k : Nat) : DArrays := { piD u i with Pipes := (pipesD u i).set (u.Pipes.getD i En.dflt).Id.toNat (ringD true 4 (u.Pipes.getD i En.dflt).Data k) }
def fiD (u : DUnix) (i : Nat) : DArrays := { piD u u.Pipes.length with Files := filesD u i }
def rdD (u : DUnix) (i : Nat) : DArrays := { fiD u u.Files.length with Ready := ringD false 6 u.Ready i }
section
variable {u : DUnix} {i j : Nat}
theorem pag_0 : pagD u i 0 = procD u i := by
 simp only [pagD, Nat.mul_zero, List.take_zero, List.append_nil, Nat.add_zero]
 rfl
theorem mid_0 : midD u i 0 = { procD u i with Slots := (slotsD u i).set i (slotD (atP u i) (pagesU u.Procs i) 0) } := by
 rw [midD, pag_0]
theorem getD_set {α : Type} {l : List α} {i : Nat} {x d : α} (h : i < l.length) : (l.set i x).getD i d = x := by
 rw [List.getD_eq_getElem?_getD, List.getElem?_set_self h]; rfl
theorem take4 (l : List Int) (j : Nat) : l.take (4 * j) ++ (l.drop (4 * j)).take 4 = l.take (4 * (j + 1)) := by
 rw [← List.take_add]; rfl
theorem pag_next : { pagD u i j with Map := mapA ((pagesU u.Procs i + j) + 1), Ram := ramA ((memsD u i ++ (atP u i).Mem.take (4 * j)) ++ ((atP u i).Mem.drop (4 * j)).take 4) } = pagD u i (j + 1) := by
 rw [List.append_assoc, take4]; rfl
theorem mid_next (h : i < 6) : { midD u i j with Map := mapA ((pagesU u.Procs i + j) + 1), Ram := ramA ((memsD u i ++ (atP u i).Mem.take (4 * j)) ++ ((atP u i).Mem.drop (4 * j)).take 4), Slots := (midD u i j).Slots.set i { (midD u i j).Slots.getD i En.dflt with Pt := ptA (pagesU u.Procs i) (j + 1) } } = midD u i (j + 1) := by
 have hl := slotsD_len (u := u) (i := i) (by omega)
 have e : (midD u i j).Slots.set i { (midD u i j).Slots.getD i En.dflt with Pt := ptA (pagesU u.Procs i) (j + 1) } = (midD u i (j + 1)).Slots := by
  show ((slotsD u i).set i _).set i { ((slotsD u i).set i _).getD i En.dflt with Pt := ptA (pagesU u.Procs i) (j + 1) } = _
  rw [List.set_set, getD_set (by omega)]
  rfl
 rw [e, List.append_assoc, take4]
 rfl
theorem pages_next : pagesU u.Procs (i + 1) = pagesU u.Procs i + (atP u i).Mem.length / 4 := rfl
theorem pag_end (hL : LoadF u) (h : i < u.Procs.length) (hj : 4 * j = (atP u i).Mem.length) : { pagD u i j with Slots := (slotsD u i).set i (slotD (atP u i) (pagesU u.Procs i) j) } = procD u (i + 1) := by
 have h6 := hL.procs
 have e1 : (slotsD u i).set i (slotD (atP u i) (pagesU u.Procs i) j) = slotsD u (i + 1) := by
  rw [← slotsD_next (by omega), show j = (u.Procs.getD i En.dflt).Mem.length / 4 from by rw [show u.Procs.getD i En.dflt = atP u i from rfl]; omega]
  rfl
 rw [e1, pagD, hj, List.take_length, show memsD u i ++ (atP u i).Mem = memsD u (i + 1) from (memsD_next h).symm, show pagesU u.Procs i + j = pagesU u.Procs (i + 1) from by rw [pages_next]; omega]
 rfl
theorem mid_end (hL : LoadF u) (h : i < u.Procs.length) (hj : 4 * j = (atP u i).Mem.length) : midD u i j = procD u (i + 1) := pag_end hL h hj
theorem pagesN_ptA {t k : Nat} (h : k < 3) (ht : t + k < 16) : pagesN (ptA t k) = k := by
 refine pages_end (by rw [ptA_len (by omega)]; exact h) (fun m hm => ?_) ?_
 ·rw [ptA, List.getD_eq_getElem?_getD, List.getElem?_append_left (by simpa using hm), List.getElem?_map, List.getElem?_range hm]
  show isFr ((t + m : Nat) : Int) = true
  simp only [isFr, Bool.and_eq_true, decide_eq_true_eq]
  omega
 ·rw [ptA, List.getD_eq_getElem?_getD, List.getElem?_append_right (by simp), List.getElem?_replicate, if_pos (by simp; omega)]
  rfl
theorem ws_len (hL : LoadF u) (h : i < u.Procs.length) (hj : 4 * j ≤ (atP u i).Mem.length) : (memsD u i ++ (atP u i).Mem.take (4 * j)).length = 4 * (pagesU u.Procs i + j) := by
 rw [List.length_append, memsD_len hL i (by omega), List.length_take]
 omega
theorem w_len (hj : 4 * j + 4 ≤ (atP u i).Mem.length) : (((atP u i).Mem.drop (4 * j)).take 4).length = 4 := by
 rw [List.length_take, List.length_drop]; omega
theorem pages_lt (hL : LoadF u) (h : i < u.Procs.length) (hj : 4 * j < (atP u i).Mem.length) : pagesU u.Procs i + j < 16 ∧ j < 3 ∧ 4 * j + 4 ≤ (atP u i).Mem.length := by
 have h1 := pagesU_mono u.Procs (i := i + 1) (j := u.Procs.length) (by omega)
 have h2 := hL.pages
 have h3 : (atP u i).Mem.length ≤ 12 ∧ (atP u i).Mem.length % 4 = 0 := hL.mem i h
 rw [pages_next] at h1
 omega
theorem pipe_put (hL : LoadF u) (h : i < u.Pipes.length) (hj : j < (u.Pipes.getD i En.dflt).Data.length) : (pjD u i j).Pipes.set (u.Pipes.getD i En.dflt).Id.toNat { (pjD u i j).Pipes.getD (u.Pipes.getD i En.dflt).Id.toNat En.dflt with Buf := ((pjD u i j).Pipes.getD (u.Pipes.getD i En.dflt).Id.toNat En.dflt).Buf.set j ((u.Pipes.getD i En.dflt).Data.getD j En.dflt), Len := ((j + 1 : Nat) : Int) } = (pjD u i (j + 1)).Pipes := by
 have hp := hL.pipe i h
 have hl := pipesD_len (u := u) (i := i)
 show ((pipesD u i).set _ _).set _ { ((pipesD u i).set _ _).getD _ En.dflt with Buf := (((pipesD u i).set _ _).getD _ En.dflt).Buf.set j _, Len := _ } = (pipesD u i).set _ _
 rw [List.set_set, getD_set (by omega)]
 rw [ringD_next (b := true) (n := 4) (by omega) hj]
 rfl
theorem pipe_used (hL : LoadF u) (h : i < u.Pipes.length) : (pipesD u i).set (u.Pipes.getD i En.dflt).Id.toNat { (pipesD u i).getD (u.Pipes.getD i En.dflt).Id.toNat En.dflt with Used := true } = (pjD u i 0).Pipes := by
 rw [pipesD_fresh hL h]
 rfl
theorem pipe_end (h : i < u.Pipes.length) (hj : j = (u.Pipes.getD i En.dflt).Data.length) : pjD u i j = piD u (i + 1) := by
 subst hj
 unfold pjD piD
 rw [pipesD_next h]
end
end Go.Proofs.YthjfgpkjooaahaaGreat.VM
