/- Contracts of functions of the program. No conditions beyond those that each states. -/
import Derived.Test.YtfbefcmeghpalaaGreatCWE
import Derived.Test.YtfbefcmeghpalaaGreatCW8
import Derived.Test.YtfbefcmeghpalaaGreatCV3
import Derived.Test.YtfbefcmeghpalaaGreatCV4
set_option linter.all false
set_option maxHeartbeats 8000000
set_option maxRecDepth 10000
namespace Go.Proofs.YtfbefcmeghpalaaGreat.VM
open Go Go.RowKit Go.Proofs
theorem tick_eq {u : DUnix} (h : unixOk u = true) : (tickW u).2 = tickEffU u := by
 have h1 := (shp_of h).tick
 unfold tickW tickEffU
 by_cases h2 : 1000000 ≤ u.Tick
 ·rw [if_pos h2, if_neg (by omega)]
 ·rw [if_neg h2, if_pos ⟨h, by omega⟩]
theorem cntL_le {α : Type} [Mk α] {K : Nat} (h : ∀ a : α, Mk.cnt a ≤ K * (Mk.wt a + 1)) (l : List α) : Mk.cnt l ≤ K * Mk.wt l := by
 rw [cnt_list, cumN_wtL, wt_list]
 induction l with
 | nil => simp [wtL]
 | cons a l ih =>
  have := h a
  simp only [wtL, List.map_cons, List.foldr_cons, List.length_cons, Nat.mul_add, Nat.mul_one] at this ih ⊢
  omega
theorem cnt_unix {u : DUnix} (hw : Mk.wt u ≤ 1048576) : Mk.cnt u.Progs + Mk.cnt u.Procs + Mk.cnt u.Opens + Mk.cnt u.Pipes + Mk.cnt u.Files + Mk.cnt u.Ready + Mk.cnt u.Out ≤ 10000000 := by
 have hwu : Mk.wt u.Progs + Mk.wt u.Procs + Mk.wt u.Opens + Mk.wt u.Pipes + Mk.wt u.Files + Mk.wt u.Ready + Mk.wt u.Out ≤ 1048576 := hw
 have i0 : ∀ l : List Int, Mk.cnt l = Mk.wt l := fun l => by rw [cnt_ints, wt_ints]
 have i1 : ∀ a : DIns, Mk.cnt a ≤ 4 * (Mk.wt a + 1) := fun a => by show 4 ≤ 4 * (0 + 1); omega
 have i2 : ∀ l : List DIns, Mk.cnt l ≤ 4 * (Mk.wt l + 1) := fun l => by have := cntL_le i1 l; omega
 have i3 : ∀ a : DProc, Mk.cnt a ≤ 7 * (Mk.wt a + 1) := fun a => by
  rw [cnt_Proc, i0, i0, i0]
  show _ ≤ 7 * ((Mk.wt a.Cpu.Regs + Mk.wt a.Mem + Mk.wt a.Fds) + 1)
  omega
 have i4 : ∀ a : DOpen, Mk.cnt a ≤ 5 * (Mk.wt a + 1) := fun a => by show 5 ≤ 5 * (0 + 1); omega
 have i5 : ∀ a : DPipe, Mk.cnt a ≤ 1 * (Mk.wt a + 1) := fun a => by
  show 1 + Mk.cnt a.Data ≤ 1 * (Mk.wt a.Data + 1)
  rw [i0]; omega
 have i6 : ∀ a : DFile, Mk.cnt a ≤ 1 * (Mk.wt a + 1) := fun a => by
  show 1 + Mk.cnt a.Data ≤ 1 * (Mk.wt a.Data + 1)
  rw [i0]; omega
 have h1 := cntL_le i2 u.Progs
 have h2 := cntL_le i3 u.Procs
 have h3 := cntL_le i4 u.Opens
 have h4 := cntL_le i5 u.Pipes
 have h5 := cntL_le i6 u.Files
 rw [i0 u.Ready, i0 u.Out]
 omega
end Go.Proofs.YtfbefcmeghpalaaGreat.VM
