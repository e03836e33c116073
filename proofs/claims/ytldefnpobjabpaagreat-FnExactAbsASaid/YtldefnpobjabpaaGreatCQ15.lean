/- Contracts of functions of the program. No conditions beyond those that each states. -/
import Derived.Test.YtldefnpobjabpaaGreatCQ11
set_option linter.all false
set_option maxHeartbeats 8000000
set_option maxRecDepth 10000
namespace Go.Proofs.YtldefnpobjabpaaGreat.VM
open Go Go.RowKit Go.Proofs
theorem cntL_le {α : Type} [Mk α] {K : Nat} (h : ∀ a : α, Mk.cnt a ≤ K * (Mk.wt a + 1)) (l : List α) : Mk.cnt l ≤ K * Mk.wt l := by
 rw [cnt_list, cumN_wtL, wt_list]
 induction l with
 | nil => simp [wtL]
 | cons a l ih =>
  have := h a
  simp only [wtL, List.map_cons, List.foldr_cons, List.length_cons, Nat.mul_add, Nat.mul_one] at this ih ⊢
  omega
theorem cnt_progs (l : List (List DIns)) : Mk.cnt l ≤ 4 * Mk.wt l :=
 cntL_le (fun l => by
  have i1 : ∀ a : DIns, Mk.cnt a ≤ 4 * (Mk.wt a + 1) := fun a => by show 4 ≤ 4 * (0 + 1); omega
  have := cntL_le i1 l; omega) l
theorem cnt_unix {u : DUnix} (hw : Mk.wt u ≤ 2000000) : Mk.cnt u.Progs + Mk.cnt u.Procs + Mk.cnt u.Opens + Mk.cnt u.Pipes + Mk.cnt u.Files + Mk.cnt u.Ready + Mk.cnt u.Out ≤ 20000000 := by
 have hwu : Mk.wt u.Progs + Mk.wt u.Procs + Mk.wt u.Opens + Mk.wt u.Pipes + Mk.wt u.Files + Mk.wt u.Ready + Mk.wt u.Out ≤ 2000000 := hw
 have i0 : ∀ l : List Int, Mk.cnt l = Mk.wt l := fun l => by rw [cnt_ints, wt_ints]
 have i3 : ∀ a : DProc, Mk.cnt a ≤ 7 * (Mk.wt a + 1) := fun a => by
  rw [cnt_Proc, i0, i0, i0]
  show _ ≤ 7 * ((Mk.wt a.Cpu.Regs + Mk.wt a.Mem + Mk.wt a.Fds) + 1)
  omega
 have i4 : ∀ a : DOpen, Mk.cnt a ≤ 5 * (Mk.wt a + 1) := fun a => by show 5 ≤ 5 * (0 + 1); omega
 have i5 : ∀ a : DPipe, Mk.cnt a ≤ 1 * (Mk.wt a + 1) := fun a => by
  show 1 + Mk.cnt a.Data ≤ 1 * (Mk.wt a.Data + 1)
  rw [i0]; omega
 have i6 : ∀ a : DFile, Mk.cnt a ≤ 1 * (Mk.wt a + 1) := fun a => by
  show 1 + Mk.cnt a.Data ≤ 1 * (Mk.wt a.Data + 1)
  rw [i0]; omega
 have h1 := cnt_progs u.Progs
 have h2 := cntL_le i3 u.Procs
 have h3 := cntL_le i4 u.Opens
 have h4 := cntL_le i5 u.Pipes
 have h5 := cntL_le i6 u.Files
 rw [i0 u.Ready, i0 u.Out]
 omega
theorem cnt_arrays {a : DArrays} (hw : Mk.wt a ≤ 1048576) : Mk.cnt a.Progs + Mk.cnt a.Slots + Mk.cnt a.Ram + Mk.cnt a.Map + Mk.cnt a.Opens + Mk.cnt a.Pipes + Mk.cnt a.Files + Mk.cnt a.Ready.Buf + Mk.cnt a.Out ≤ 20000000 := by
 have hwu : Mk.wt a.Progs + Mk.wt a.Slots + Mk.wt a.Ram + Mk.wt a.Map + Mk.wt a.Opens + Mk.wt a.Pipes + Mk.wt a.Files + Mk.wt a.Ready.Buf + Mk.wt a.Out ≤ 1048576 := hw
 have i0 : ∀ l : List Int, Mk.cnt l = Mk.wt l := fun l => by rw [cnt_ints, wt_ints]
 have i1 : ∀ a : DASlot, Mk.cnt a ≤ 8 * (Mk.wt a + 1) := fun a => by
  rw [cnt_ASlot, i0, i0, i0]
  show _ ≤ 8 * ((Mk.wt a.Regs + Mk.wt a.Pt + Mk.wt a.Fds) + 1)
  omega
 have i4 : ∀ a : DAOpen, Mk.cnt a ≤ 5 * (Mk.wt a + 1) := fun a => by show 5 ≤ 5 * (0 + 1); omega
 have i5 : ∀ a : DARing, Mk.cnt a ≤ 3 * (Mk.wt a + 1) := fun a => by
  rw [cnt_ARing, i0]
  show _ ≤ 3 * (Mk.wt a.Buf + 1)
  omega
 have i6 : ∀ a : DAFile, Mk.cnt a ≤ 1 * (Mk.wt a + 1) := fun a => by
  rw [cnt_AFile, i0]
  show _ ≤ 1 * (Mk.wt a.Data + 1)
  omega
 have h1 := cnt_progs a.Progs
 have h2 := cntL_le i1 a.Slots
 have h3 := cntL_le i4 a.Opens
 have h4 := cntL_le i5 a.Pipes
 have h5 := cntL_le i6 a.Files
 rw [i0 a.Ram, i0 a.Ready.Buf, i0 a.Out, cnt_bools, ← wt_bools]
 omega
theorem wt_app1 {α : Type} [Mk α] (l : List α) (x : α) : Mk.wt (l ++ [x]) = Mk.wt l + (Mk.wt x + 1) := by
 rw [wt_list, wt_list]
 induction l with
 | nil => simp [wtL]; omega
 | cons y l ih => simp only [wtL, List.cons_append, List.map_cons, List.foldr_cons, List.length_cons] at ih ⊢; omega
theorem wt_ins {α : Type} [Mk α] (key : α → Int) (x : α) : ∀ l : List α, Mk.wt (insK key l x) = Mk.wt l + (Mk.wt x + 1)
 | [] => wt_app1 [] x
 | y :: l => by
  have h : ∀ (z : α) (m : List α), Mk.wt (z :: m) = Mk.wt m + (Mk.wt z + 1) := fun z m => by
   rw [wt_list, wt_list]; simp only [wtL, List.map_cons, List.foldr_cons, List.length_cons]; omega
  rw [insK]
  split
  ·rw [h x]
  ·rw [h, h, wt_ins key x l]; omega
theorem wt_sort {α : Type} [Mk α] (key : α → Int) (l : List α) : Mk.wt (sortK key l) = Mk.wt l := by
 have h : ∀ (l acc : List α), Mk.wt (l.foldl (insK key) acc) = Mk.wt acc + Mk.wt l := fun l => by
  induction l with
  | nil => intro acc; rfl
  | cons x l ih =>
   intro acc
   rw [List.foldl_cons, ih, wt_ins, wt_list (x :: l), wt_list l]
   simp only [wtL, List.map_cons, List.foldr_cons, List.length_cons]; omega
 rw [sortK, h]
 show 0 + _ = _
 omega
theorem memK_lenLe (ram fs : List Int) (k : Nat) : (memK ram fs k).length ≤ 4 * k := by
 unfold memK
 rw [List.length_flatten, List.map_map]
 have h : ∀ l : List Int, (l.map (List.length ∘ frW ram)).sum ≤ 4 * l.length := fun l => by
  induction l with
  | nil => exact Nat.le_refl _
  | cons x l ih =>
   have : (List.length ∘ frW ram) x ≤ 4 := by show (frW ram x).length ≤ 4; unfold frW; exact List.length_take_le _ _
   simp only [List.map_cons, List.sum_cons, List.length_cons]; omega
 have := h (fs.take k)
 have := List.length_take_le k fs
 omega
theorem dataL_lenLe {r : DARing} {n : Int} (h : ringOk r n = true) : ((dataL r).length : Int) ≤ n := by
 simp only [ringOk, Bool.and_eq_true, Bool.or_eq_true, decide_eq_true_eq, beq_iff_eq, Bool.not_eq_true'] at h
 rw [dataL, dataK, List.length_map, List.length_range]
 omega
section
variable {a : DArrays} (hS : ShpA a)
include hS
theorem procsK_wt : ∀ k, k ≤ a.Slots.length → Mk.wt (procsK a k) ≤ 30 * k
 | 0, _ => by show 0 ≤ _; omega
 | k + 1, hk => by
  have h1 := procsK_wt k (by omega)
  rw [procsK]
  split
  ·rw [wt_app1]
   have h2 := hS.slot k (by omega)
   have h3 : Mk.wt (procP a (a.Slots.getD k En.dflt)) = Mk.wt (a.Slots.getD k En.dflt).Regs + Mk.wt (memK a.Ram (a.Slots.getD k En.dflt).Pt (pagesN (a.Slots.getD k En.dflt).Pt)) + Mk.wt (a.Slots.getD k En.dflt).Fds := rfl
   rw [wt_ints, wt_ints, wt_ints] at h3
   have h4 := memK_lenLe a.Ram (a.Slots.getD k En.dflt).Pt (pagesN (a.Slots.getD k En.dflt).Pt)
   have h5 := pagesN_le (a.Slots.getD k En.dflt).Pt
   omega
  ·omega
theorem pipesK_wt : ∀ k, k ≤ a.Pipes.length → Mk.wt (pipesK a k) ≤ 5 * k
 | 0, _ => by show 0 ≤ _; omega
 | k + 1, hk => by
  have h1 := pipesK_wt k (by omega)
  rw [pipesK]
  split
  ·rw [wt_app1]
   have h2 := dataL_lenLe (hS.pipe k (by omega))
   have h3 : Mk.wt (pipeP k (a.Pipes.getD k En.dflt)) = Mk.wt (dataL (a.Pipes.getD k En.dflt)) := rfl
   rw [wt_ints] at h3
   omega
  ·omega
omit hS in
theorem opensK_wt : ∀ k, Mk.wt (opensK a k) ≤ k
 | 0 => Nat.le_refl _
 | k + 1 => by
  have h1 := opensK_wt k
  rw [opensK]
  split
  ·rw [wt_app1]; show _ + (0 + 1) ≤ _; omega
  ·omega
omit hS in
theorem filesK_wt : ∀ k, Mk.wt (filesK a k) ≤ k + cumN Mk.wt En.dflt a.Files k
 | 0 => Nat.le_refl _
 | k + 1 => by
  have h1 := filesK_wt k
  rw [filesK, cumN]
  split
  ·rw [wt_app1]
   have h3 : Mk.wt (fileP k (a.Files.getD k En.dflt)) = Mk.wt (a.Files.getD k En.dflt) := rfl
   omega
  ·omega
end
theorem absA_wt {a : DArrays} (hw : Mk.wt a ≤ 1048576) : Mk.wt (absA a) ≤ 1049576 := by
 have hwu : Mk.wt a.Progs + Mk.wt a.Slots + Mk.wt a.Ram + Mk.wt a.Map + Mk.wt a.Opens + Mk.wt a.Pipes + Mk.wt a.Files + Mk.wt a.Ready.Buf + Mk.wt a.Out ≤ 1048576 := hw
 cases hsh : shapeA a with
 | false => rw [absA_f hsh]; show 0 ≤ _; omega
 | true =>
  rw [absA_t hsh]
  have hS := shpA hsh
  have e : Mk.wt (absU a) = Mk.wt a.Progs + Mk.wt (sortK DProc.Pid (procsK a a.Slots.length)) + Mk.wt (opensK a a.Opens.length) + Mk.wt (pipesK a a.Pipes.length) + Mk.wt (filesK a a.Files.length) + Mk.wt (dataL a.Ready) + Mk.wt a.Out := rfl
  rw [wt_sort, wt_ints (dataL a.Ready)] at e
  have h1 := procsK_wt hS _ (Nat.le_refl _)
  have h2 := opensK_wt (a := a) a.Opens.length
  have h3 := pipesK_wt hS _ (Nat.le_refl _)
  have h4 := filesK_wt (a := a) a.Files.length
  rw [cumN_wt] at h4
  have h5 := wt_list a.Files
  have h6 := dataL_lenLe hS.ready
  have := hS.slots; have := hS.opens; have := hS.pipes
  omega
end Go.Proofs.YtldefnpobjabpaaGreat.VM
