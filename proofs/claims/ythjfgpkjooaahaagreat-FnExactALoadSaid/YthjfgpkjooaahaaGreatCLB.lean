/- Contracts. No conditions. -/
import Derived.Test.YthjfgpkjooaahaaGreatCU5
import Derived.Test.YthjfgpkjooaahaaGreatCLA1
set_option linter.all false
set_option maxHeartbeats 8000000
set_option maxRecDepth 10000
namespace Go.Proofs.YthjfgpkjooaahaaGreat.VM
open Go Go.RowKit Go.Proofs
theorem take_snocG {α : Type} {l : List α} {k : Nat} (d : α) (h : k < l.length) : l.take (k + 1) = l.take k ++ [l.getD k d] := by
 rw [List.take_add_one, List.getElem?_eq_getElem h]
 simp [List.getD_eq_getElem?_getD, h]
def noSlotD : DASlot := { Used := false, Pid := 0, Parent := 0, State := 0, Prog := 0, Pc := 0, Until := 0, Code := 0, Regs := List.replicate 4 0, Pt := List.replicate 3 (-1), Fds := List.replicate 4 (-1) }
def slotD (p : DProc) (t k : Nat) : DASlot := { Used := true, Pid := p.Pid, Parent := p.Parent, State := p.State, Prog := p.Prog, Pc := p.Cpu.Pc, Until := p.Until, Code := p.Code, Regs := p.Cpu.Regs, Pt := ptA t k, Fds := p.Fds }
/-- the slots of the first i processes; the rest is not used -/
def slotsD (u : DUnix) (i : Nat) : List DASlot := (List.range i).map (fun j => slotD (u.Procs.getD j En.dflt) (pagesU u.Procs j) ((u.Procs.getD j En.dflt).Mem.length / 4)) ++ List.replicate (6 - i) noSlotD
def memsD (u : DUnix) (i : Nat) : List Int := ((u.Procs.take i).map DProc.Mem).flatten
def noOpenD : DAOpen := { Used := false, Kind := 0, Target := 0, Off := 0, Refs := 0 }
def openD (o : DOpen) : DAOpen := { Used := true, Kind := o.Kind, Target := o.Target, Off := o.Off, Refs := o.Refs }
def opensD (u : DUnix) (i : Nat) : List DAOpen := (u.Opens.take i).foldl (fun l o => l.set o.Id.toNat (openD o)) (List.replicate 8 noOpenD)
/-- a ring of n words into which k of a list have been put -/
def ringD (b : Bool) (n : Nat) (d : List Int) (k : Nat) : DARing := { Used := b, Buf := d.take k ++ List.replicate (n - k) 0, Head := 0, Len := (k : Int) }
def pipesD (u : DUnix) (i : Nat) : List DARing := (u.Pipes.take i).foldl (fun l p => l.set p.Id.toNat (ringD true 4 p.Data p.Data.length)) (List.replicate 3 (ringD false 4 [] 0))
def noFileD : DAFile := { Used := false, Data := [] }
def fileD (f : DFile) : DAFile := { Used := true, Data := f.Data }
def filesD (u : DUnix) (i : Nat) : List DAFile := (u.Files.take i).foldl (fun l f => l.set f.Name.toNat (fileD f)) (List.replicate 6 noFileD)
def loadD (u : DUnix) : DArrays := { Next := u.Next, Tick := u.Tick, Progs := u.Progs, Slots := slotsD u u.Procs.length, Ram := ramA (memsD u u.Procs.length), Map := mapA (pagesU u.Procs u.Procs.length), Opens := opensD u u.Opens.length, Pipes := pipesD u u.Pipes.length, Files := filesD u u.Files.length, Ready := ringD false 6 u.Ready u.Ready.length, Out := u.Out }
theorem fold_len {α β : Type} (f : α → Nat) (g : α → β) : ∀ (l : List α) (b : List β), (l.foldl (fun b a => b.set (f a) (g a)) b).length = b.length
 | [], _ => rfl
 | a :: l, b => by rw [List.foldl_cons, fold_len f g l]; simp
theorem fold_keep {α β : Type} (f : α → Nat) (g : α → β) (d : β) {k : Nat} : ∀ (l : List α) (b : List β), (∀ a ∈ l, f a ≠ k) → (l.foldl (fun b a => b.set (f a) (g a)) b).getD k d = b.getD k d
 | [], _, _ => rfl
 | a :: l, b, h => by
  rw [List.foldl_cons, fold_keep f g d l _ fun x hx => h x (List.mem_cons_of_mem _ hx)]
  rw [List.getD_eq_getElem?_getD, List.getElem?_set_ne (h a (List.mem_cons_self ..)), List.getD_eq_getElem?_getD]
section
variable {u : DUnix} {i : Nat}
theorem slotsD_len (h : i ≤ 6) : (slotsD u i).length = 6 := by simp [slotsD]; omega
theorem opensD_len : (opensD u i).length = 8 := by rw [opensD, fold_len (fun o : DOpen => o.Id.toNat) openD]; simp
theorem pipesD_len : (pipesD u i).length = 3 := by rw [pipesD, fold_len (fun p : DPipe => p.Id.toNat) fun p => ringD true 4 p.Data p.Data.length]; simp
theorem filesD_len : (filesD u i).length = 6 := by rw [filesD, fold_len (fun f : DFile => f.Name.toNat) fileD]; simp
theorem slotsD_next (h : i < 6) : (slotsD u i).set i (slotD (u.Procs.getD i En.dflt) (pagesU u.Procs i) ((u.Procs.getD i En.dflt).Mem.length / 4)) = slotsD u (i + 1) := by
 have := set_rep (a := noSlotD) (b := slotD (u.Procs.getD i En.dflt) (pagesU u.Procs i) ((u.Procs.getD i En.dflt).Mem.length / 4)) (l := (List.range i).map (fun j => slotD (u.Procs.getD j En.dflt) (pagesU u.Procs j) ((u.Procs.getD j En.dflt).Mem.length / 4))) (n := 6 - i) (by omega)
 rw [List.length_map, List.length_range] at this
 rw [slotsD, this, slotsD, List.range_succ, List.map_append, List.map_cons, List.map_nil, show 6 - i - 1 = 6 - (i + 1) by omega]
theorem opensD_next (h : i < u.Opens.length) : opensD u (i + 1) = (opensD u i).set (u.Opens.getD i En.dflt).Id.toNat (openD (u.Opens.getD i En.dflt)) := by
 rw [opensD, take_snocG En.dflt h, List.foldl_append]; rfl
theorem pipesD_next (h : i < u.Pipes.length) : pipesD u (i + 1) = (pipesD u i).set (u.Pipes.getD i En.dflt).Id.toNat (ringD true 4 (u.Pipes.getD i En.dflt).Data (u.Pipes.getD i En.dflt).Data.length) := by
 rw [pipesD, take_snocG En.dflt h, List.foldl_append]; rfl
theorem filesD_next (h : i < u.Files.length) : filesD u (i + 1) = (filesD u i).set (u.Files.getD i En.dflt).Name.toNat (fileD (u.Files.getD i En.dflt)) := by
 rw [filesD, take_snocG En.dflt h, List.foldl_append]; rfl
theorem memsD_next (h : i < u.Procs.length) : memsD u (i + 1) = memsD u i ++ (u.Procs.getD i En.dflt).Mem := by
 rw [memsD, take_snocG En.dflt h, List.map_append, List.flatten_append]; simp [memsD]
theorem ringD_next {b : Bool} {n : Nat} {d : List Int} {k : Nat} (h : k < n) (hk : k < d.length) : (ringD b n d k).Buf.set k (d.getD k En.dflt) = (ringD b n d (k + 1)).Buf := by
 have := set_rep (a := (0 : Int)) (b := d.getD k En.dflt) (l := d.take k) (n := n - k) (by omega)
 rw [List.length_take, Nat.min_eq_left (by omega)] at this
 show (d.take k ++ List.replicate (n - k) 0).set k _ = d.take (k + 1) ++ List.replicate (n - (k + 1)) 0
 rw [this, take_snocG En.dflt hk, show n - k - 1 = n - (k + 1) by omega]
end
/-- what a right Unix has that loading leans on -/
structure LoadF (u : DUnix) : Prop where
 procs : u.Procs.length ≤ 6
 mem : ∀ i, i < u.Procs.length → (u.Procs.getD i En.dflt).Mem.length ≤ 12 ∧ (u.Procs.getD i En.dflt).Mem.length % 4 = 0
 pages : pagesU u.Procs u.Procs.length ≤ 16
 open_ : ∀ i, i < u.Opens.length → 0 ≤ (u.Opens.getD i En.dflt).Id ∧ (u.Opens.getD i En.dflt).Id ≤ 7
 opens : u.Opens.length ≤ 8
 pipes : u.Pipes.length ≤ 3
 pipe : ∀ i, i < u.Pipes.length → (0 ≤ (u.Pipes.getD i En.dflt).Id ∧ (u.Pipes.getD i En.dflt).Id ≤ 2) ∧ (u.Pipes.getD i En.dflt).Data.length ≤ 4
 rise : ∀ i, i < u.Pipes.length → ∀ j, j < i → (u.Pipes.getD j En.dflt).Id < (u.Pipes.getD i En.dflt).Id
 files : u.Files.length ≤ 6
 file : ∀ i, i < u.Files.length → (0 ≤ (u.Files.getD i En.dflt).Name ∧ (u.Files.getD i En.dflt).Name ≤ 5) ∧ (u.Files.getD i En.dflt).Data.length ≤ 8
 ready : u.Ready.length ≤ 6
theorem memsD_len {u : DUnix} (h : LoadF u) : ∀ i, i ≤ u.Procs.length → (memsD u i).length = 4 * pagesU u.Procs i
 | 0, _ => rfl
 | i + 1, hi => by
  rw [memsD_next (by omega), List.length_append, memsD_len h i (by omega)]
  show _ = 4 * (pagesU u.Procs i + (u.Procs.getD i En.dflt).Mem.length / 4)
  have := (h.mem i (by omega)).2
  omega
theorem pagesU_mono (l : List DProc) {i j : Nat} (h : i ≤ j) : pagesU l i ≤ pagesU l j := by
 induction h with
 | refl => exact Nat.le_refl _
 | step _ ih => exact Nat.le_trans ih (Nat.le_add_right _ _)
/-- the ring of a pipe that has not been loaded yet -/
theorem pipesD_fresh {u : DUnix} (h : LoadF u) {i : Nat} (hi : i < u.Pipes.length) : (pipesD u i).getD (u.Pipes.getD i En.dflt).Id.toNat En.dflt = ringD false 4 [] 0 := by
 rw [pipesD, fold_keep (fun p : DPipe => p.Id.toNat) (fun p => ringD true 4 p.Data p.Data.length)]
 ·have := (h.pipe i hi).1
  rw [List.getD_eq_getElem?_getD, List.getElem?_replicate, if_pos (by omega)]
  rfl
 ·intro p hp
  obtain ⟨j, hj, rfl⟩ := List.mem_iff_getElem.1 hp
  rw [List.length_take] at hj
  have h1 := h.rise i hi j (by omega)
  have h2 := (h.pipe i hi).1
  have h3 := (h.pipe j (by omega)).1
  rw [List.getElem_take]
  have e : u.Pipes.getD j En.dflt = u.Pipes[j]'(by omega) := by rw [List.getD_eq_getElem?_getD, List.getElem?_eq_getElem (by omega)]; rfl
  rw [e] at h1 h3
  show (u.Pipes[j]'(by omega)).Id.toNat ≠ _
  omega
theorem loadF_of {u : DUnix} (h : unixOk u = true) : LoadF u := by
 have hS := h
 simp only [unixOk, headOk, Bool.and_eq_true, decide_eq_true_eq] at h
 obtain ⟨⟨⟨⟨⟨⟨⟨hH, g5⟩, gp⟩, hP⟩, hO⟩, hI⟩, hF⟩, hR⟩ := h
 have hI' := hI
 have hF' := hF
 simp only [pipesOk, Bool.and_eq_true, decide_eq_true_eq, allIx_iff, pipeOk] at hI'
 simp only [filesOk, Bool.and_eq_true, decide_eq_true_eq, allIx_iff, fileOk] at hF'
 simp only [opensOk, Bool.and_eq_true, decide_eq_true_eq, allIx_iff, openOk] at hO
 rw [readyOk_eq, Bool.and_eq_true, decide_eq_true_eq] at hR
 have hr := readyN_le u.Procs u.Procs.length
 refine ⟨by omega, fun i hi => ?_, by omega, fun i hi => ?_, by omega, by omega, fun i hi => ?_, fun i hi j hj => ?_, by omega, fun i hi => ?_, by omega⟩
 ·have := procOk_parts (procsOk_at hP hi).2
  exact ⟨this.1, this.2.1⟩
 ·exact (hO i hi).2.1.1
 ·have := hI'.1 i hi
  exact ⟨this.2.1.1.1, by have := this.2.1.1.2; omega⟩
 ·exact rises_pair (fun k hk => (hI'.1 k hk).1) i hi j hj
 ·have := hF'.1 i hi
  exact ⟨this.2.1.1, by have := this.2.1.2; omega⟩
end Go.Proofs.YthjfgpkjooaahaaGreat.VM
