/- Contracts. No conditions. -/
import Derived.Test.YthjfgpkjooaahaaGreatCLV
import Derived.Test.YthjfgpkjooaahaaGreatCUH
set_option linter.all false
set_option maxHeartbeats 8000000
set_option maxRecDepth 10000
namespace Go.Proofs.YthjfgpkjooaahaaGreat.VM
open Go Go.RowKit Go.Proofs
theorem cntL_le {α : Type} [Mk α] {K : Nat} (h : ∀ a : α, Mk.cnt a ≤ K * (Mk.wt a + 1)) (l : List α) : Mk.cnt l ≤ K * Mk.wt l := by
 rw [cnt_list, cumN_wtL, wt_list]
 induction l with
 | nil => simp [wtL]
 | cons a l ih =>
  have := h a
  simp only [wtL, List.map_cons, List.foldr_cons, List.length_cons, Nat.mul_add, Nat.mul_one] at this ih ⊢
  omega
theorem cnt_progs (l : List (List DIns)) : Mk.cnt l ≤ 4 * Mk.wt l :=
 cntL_le (fun l => by
  have i1 : ∀ a : DIns, Mk.cnt a ≤ 4 * (Mk.wt a + 1) := fun a => by show 4 ≤ 4 * (0 + 1); omega
  have := cntL_le i1 l; omega) l
theorem cnt_unix {u : DUnix} (hw : Mk.wt u ≤ 2000000) : Mk.cnt u.Progs + Mk.cnt u.Procs + Mk.cnt u.Opens + Mk.cnt u.Pipes + Mk.cnt u.Files + Mk.cnt u.Ready + Mk.cnt u.Out ≤ 20000000 := by
 have hwu : Mk.wt u.Progs + Mk.wt u.Procs + Mk.wt u.Opens + Mk.wt u.Pipes + Mk.wt u.Files + Mk.wt u.Ready + Mk.wt u.Out ≤ 2000000 := hw
 have i0 : ∀ l : List Int, Mk.cnt l = Mk.wt l := fun l => by rw [cnt_ints, wt_ints]
 have i3 : ∀ a : DProc, Mk.cnt a ≤ 7 * (Mk.wt a + 1) := fun a => by
  rw [cnt_Proc, i0, i0, i0]
  show _ ≤ 7 * ((Mk.wt a.Cpu.Regs + Mk.wt a.Mem + Mk.wt a.Fds) + 1)
  omega
 have i4 : ∀ a : DOpen, Mk.cnt a ≤ 5 * (Mk.wt a + 1) := fun a => by show 5 ≤ 5 * (0 + 1); omega
 have i5 : ∀ a : DPipe, Mk.cnt a ≤ 1 * (Mk.wt a + 1) := fun a => by
  show 1 + Mk.cnt a.Data ≤ 1 * (Mk.wt a.Data + 1)
  rw [i0]; omega
 have i6 : ∀ a : DFile, Mk.cnt a ≤ 1 * (Mk.wt a + 1) := fun a => by
  show 1 + Mk.cnt a.Data ≤ 1 * (Mk.wt a.Data + 1)
  rw [i0]; omega
 have h1 := cnt_progs u.Progs
 have h2 := cntL_le i3 u.Procs
 have h3 := cntL_le i4 u.Opens
 have h4 := cntL_le i5 u.Pipes
 have h5 := cntL_le i6 u.Files
 rw [i0 u.Ready, i0 u.Out]
 omega
theorem cnt_arrays {a : DArrays} (hw : Mk.wt a ≤ 2000000) : Mk.cnt a.Progs + Mk.cnt a.Slots + Mk.cnt a.Ram + Mk.cnt a.Map + Mk.cnt a.Opens + Mk.cnt a.Pipes + Mk.cnt a.Files + Mk.cnt a.Ready.Buf + Mk.cnt a.Out ≤ 20000000 := by
 have hwu : Mk.wt a.Progs + Mk.wt a.Slots + Mk.wt a.Ram + Mk.wt a.Map + Mk.wt a.Opens + Mk.wt a.Pipes + Mk.wt a.Files + Mk.wt a.Ready.Buf + Mk.wt a.Out ≤ 2000000 := hw
 have i0 : ∀ l : List Int, Mk.cnt l = Mk.wt l := fun l => by rw [cnt_ints, wt_ints]
 have i1 : ∀ a : DASlot, Mk.cnt a ≤ 8 * (Mk.wt a + 1) := fun a => by
  rw [cnt_ASlot, i0, i0, i0]
  show _ ≤ 8 * ((Mk.wt a.Regs + Mk.wt a.Pt + Mk.wt a.Fds) + 1)
  omega
 have i4 : ∀ a : DAOpen, Mk.cnt a ≤ 5 * (Mk.wt a + 1) := fun a => by show 5 ≤ 5 * (0 + 1); omega
 have i5 : ∀ a : DARing, Mk.cnt a ≤ 3 * (Mk.wt a + 1) := fun a => by
  rw [cnt_ARing, i0]
  show _ ≤ 3 * (Mk.wt a.Buf + 1)
  omega
 have i6 : ∀ a : DAFile, Mk.cnt a ≤ 1 * (Mk.wt a + 1) := fun a => by
  rw [cnt_AFile, i0]
  show _ ≤ 1 * (Mk.wt a.Data + 1)
  omega
 have h1 := cnt_progs a.Progs
 have h2 := cntL_le i1 a.Slots
 have h3 := cntL_le i4 a.Opens
 have h4 := cntL_le i5 a.Pipes
 have h5 := cntL_le i6 a.Files
 rw [i0 a.Ram, i0 a.Ready.Buf, i0 a.Out, cnt_bools, ← wt_bools]
 omega
theorem wt_le {α : Type} [Mk α] {K : Nat} : ∀ {l : List α}, (∀ a ∈ l, Mk.wt a ≤ K) → Mk.wt l ≤ (K + 1) * l.length
 | [], _ => Nat.le_refl _
 | a :: l, h => by
  have h1 := wt_le (l := l) (K := K) fun x hx => h x (List.mem_cons_of_mem _ hx)
  have h2 := h a (List.mem_cons_self ..)
  rw [wt_list] at h1 ⊢
  simp only [wtL, List.map_cons, List.foldr_cons, List.length_cons, Nat.mul_add, Nat.mul_one] at h1 ⊢
  omega
theorem mem_set {α : Type} {l : List α} {i : Nat} {x a : α} (h : a ∈ l.set i x) : a ∈ l ∨ a = x := List.mem_or_eq_of_mem_set h
theorem mem_fold {α β : Type} {f : α → Nat} {g : α → β} {x : β} : ∀ {l : List α} {b : List β}, x ∈ l.foldl (fun b a => b.set (f a) (g a)) b → x ∈ b ∨ ∃ a ∈ l, x = g a
 | [], _, h => .inl h
 | a :: l, b, h => by
  rcases mem_fold (l := l) h with h | ⟨y, hy, e⟩
  ·rcases mem_set h with h | h
   ·exact .inl h
   ·exact .inr ⟨a, List.mem_cons_self .., h⟩
  ·exact .inr ⟨y, List.mem_cons_of_mem _ hy, e⟩
theorem mem_get {α : Type} [En α] {l : List α} {a : α} (h : a ∈ l) : ∃ i, i < l.length ∧ a = l.getD i En.dflt := by
 obtain ⟨i, hi, rfl⟩ := List.mem_iff_getElem.1 h
 exact ⟨i, hi, by rw [List.getD_eq_getElem?_getD, List.getElem?_eq_getElem hi]; rfl⟩
theorem slotsD_wt {u : DUnix} (hR : ∀ i, i < u.Procs.length → (u.Procs.getD i En.dflt).Cpu.Regs.length ≤ 4 ∧ (u.Procs.getD i En.dflt).Fds.length ≤ 4 ∧ (u.Procs.getD i En.dflt).Mem.length ≤ 12) (h : u.Procs.length ≤ 6) : Mk.wt (slotsD u u.Procs.length) ≤ 100 := by
 have h1 : ∀ a ∈ slotsD u u.Procs.length, Mk.wt a ≤ 11 := fun a ha => by
  rcases List.mem_append.1 ha with ha | ha
  ·obtain ⟨j, hj, rfl⟩ := List.mem_map.1 ha
   have hj' := List.mem_range.1 hj
   show Mk.wt (u.Procs.getD j En.dflt).Cpu.Regs + Mk.wt (ptA (pagesU u.Procs j) ((u.Procs.getD j En.dflt).Mem.length / 4)) + Mk.wt (u.Procs.getD j En.dflt).Fds ≤ 11
   have := hR j hj'
   rw [wt_ints, wt_ints, wt_ints, ptA_len (by omega)]
   omega
  ·obtain ⟨_, rfl⟩ := List.mem_replicate.1 ha
   decide
 have h2 := wt_le h1
 have h3 := slotsD_len (u := u) h
 omega
theorem loadD_wt {u : DUnix} (hU : unixOk u = true) (hw : Mk.wt u ≤ 1048576) : Mk.wt (loadD u) ≤ 2000000 := by
 have hL := loadF_of hU
 have hwu : Mk.wt u.Progs + Mk.wt u.Procs + Mk.wt u.Opens + Mk.wt u.Pipes + Mk.wt u.Files + Mk.wt u.Ready + Mk.wt u.Out ≤ 1048576 := hw
 have hS : Mk.wt (slotsD u u.Procs.length) ≤ 100 := slotsD_wt (fun i hi => by
  have hpi := (procsOk_at (unixOk_procs hU) hi).2
  have hq := procOk_parts hpi
  have hr : (u.Procs.getD i En.dflt).Cpu.Regs.length = 4 := by
   simp only [procOk, procS, cpuOk, Bool.and_eq_true, decide_eq_true_eq, beq_iff_eq] at hpi
   omega
  omega) hL.procs
 have hM := memsD_len hL _ (Nat.le_refl _)
 have hp := hL.pages
 have hR : Mk.wt (ramA (memsD u u.Procs.length)) = 64 := by rw [wt_ints, ramA_len (by omega)]
 have hA : Mk.wt (mapA (pagesU u.Procs u.Procs.length)) = 16 := by rw [wt_bools, mapA_len hp]
 have hO : Mk.wt (opensD u u.Opens.length) ≤ 8 := by
  have := wt_le (K := 0) (l := opensD u u.Opens.length) fun a ha => Nat.le_refl _
  rw [opensD_len] at this
  omega
 have hI : Mk.wt (pipesD u u.Pipes.length) ≤ 15 := by
  have := wt_le (K := 4) (l := pipesD u u.Pipes.length) fun a ha => by
   rcases mem_fold ha with ha | ⟨p, hp, rfl⟩
   ·obtain ⟨_, rfl⟩ := List.mem_replicate.1 ha
    decide
   ·obtain ⟨i, hi, rfl⟩ := mem_get (List.mem_of_mem_take hp)
    have := (hL.pipe i hi).2
    show Mk.wt (_ ++ _ : List Int) ≤ 4
    rw [wt_ints, List.length_append, List.length_take, List.length_replicate]
    omega
  rw [pipesD_len] at this
  omega
 have hF : Mk.wt (filesD u u.Files.length) ≤ 54 := by
  have := wt_le (K := 8) (l := filesD u u.Files.length) fun a ha => by
   rcases mem_fold ha with ha | ⟨p, hp, rfl⟩
   ·obtain ⟨_, rfl⟩ := List.mem_replicate.1 ha
    decide
   ·obtain ⟨i, hi, rfl⟩ := mem_get (List.mem_of_mem_take hp)
    have := (hL.file i hi).2
    show Mk.wt (_ : List Int) ≤ 8
    rw [wt_ints]
    exact this
  rw [filesD_len] at this
  omega
 have hB : Mk.wt (ringD false 6 u.Ready u.Ready.length).Buf ≤ 6 := by
  have := hL.ready
  show Mk.wt (_ ++ _ : List Int) ≤ 6
  rw [wt_ints, List.length_append, List.length_take, List.length_replicate]
  omega
 show Mk.wt u.Progs + Mk.wt (slotsD u u.Procs.length) + Mk.wt (ramA (memsD u u.Procs.length)) + Mk.wt (mapA (pagesU u.Procs u.Procs.length)) + Mk.wt (opensD u u.Opens.length) + Mk.wt (pipesD u u.Pipes.length) + Mk.wt (filesD u u.Files.length) + Mk.wt (ringD false 6 u.Ready u.Ready.length).Buf + Mk.wt u.Out ≤ 2000000
 omega
theorem loadR_wt {u : DUnix} (hw : Mk.wt u ≤ 1048576) : Mk.wt (loadR u) ≤ 2000000 := by
 unfold loadR
 split
 ·rename_i h; exact loadD_wt h hw
 ·decide
end Go.Proofs.YthjfgpkjooaahaaGreat.VM
