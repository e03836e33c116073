/- Contracts of functions of the program. No conditions beyond those that each states. -/
import Derived.Test.YtfbefcmeghpalaaGreatCWE
import Derived.Test.YtfbefcmeghpalaaGreatCW8
import Derived.Test.YtfbefcmeghpalaaGreatCV3
import Derived.Test.YtfbefcmeghpalaaGreatCV4
set_option linter.all false
set_option maxHeartbeats 8000000
set_option maxRecDepth 10000
namespace Go.Proofs.YtfbefcmeghpalaaGreat.VM
open Go Go.RowKit Go.Proofs
theorem tick_eq {u : DUnix} (h : unixOk u = true) : (tickW u).2 = tickEffU u := by
 have h1 := (shp_of h).tick
 unfold tickW tickEffU
 by_cases h2 : 1000000 ≤ u.Tick
 ·rw [if_pos h2, if_neg (by omega)]
 ·rw [if_neg h2, if_pos ⟨h, by omega⟩]
theorem cntL_le {α : Type} [Mk α] {K : Nat} (h : ∀ a : α, Mk.cnt a ≤ K * (Mk.wt a + 1)) (l : List α) : Mk.cnt l ≤ K * Mk.wt l := by
 rw [cnt_list, cumN_wtL, wt_list]
 induction l with
 | nil => simp [wtL]
 | cons a l ih =>
  have := h a
  simp only [wtL, List.map_cons, List.foldr_cons, List.length_cons, Nat.mul_add, Nat.mul_one] at this ih ⊢
  omega
theorem cnt_unix {u : DUnix} (hw : Mk.wt u ≤ 1048576) : Mk.cnt u.Progs + Mk.cnt u.Procs + Mk.cnt u.Opens + Mk.cnt u.Pipes + Mk.cnt u.Files + Mk.cnt u.Ready + Mk.cnt u.Out ≤ 10000000 := by
 have hwu : Mk.wt u.Progs + Mk.wt u.Procs + Mk.wt u.Opens + Mk.wt u.Pipes + Mk.wt u.Files + Mk.wt u.Ready + Mk.wt u.Out ≤ 1048576 := hw
 have i0 : ∀ l : List Int, Mk.cnt l = Mk.wt l := fun l => by rw [cnt_ints, wt_ints]
 have i1 : ∀ a : DIns, Mk.cnt a ≤ 4 * (Mk.wt a + 1) := fun a => by show 4 ≤ 4 * (0 + 1); omega
 have i2 : ∀ l : List DIns, Mk.cnt l ≤ 4 * (Mk.wt l + 1) := fun l => by have := cntL_le i1 l; omega
 have i3 : ∀ a : DProc, Mk.cnt a ≤ 7 * (Mk.wt a + 1) := fun a => by
  rw [cnt_Proc, i0, i0, i0]
  show _ ≤ 7 * ((Mk.wt a.Cpu.Regs + Mk.wt a.Mem + Mk.wt a.Fds) + 1)
  omega
 have i4 : ∀ a : DOpen, Mk.cnt a ≤ 5 * (Mk.wt a + 1) := fun a => by show 5 ≤ 5 * (0 + 1); omega
 have i5 : ∀ a : DPipe, Mk.cnt a ≤ 1 * (Mk.wt a + 1) := fun a => by
  show 1 + Mk.cnt a.Data ≤ 1 * (Mk.wt a.Data + 1)
  rw [i0]; omega
 have i6 : ∀ a : DFile, Mk.cnt a ≤ 1 * (Mk.wt a + 1) := fun a => by
  show 1 + Mk.cnt a.Data ≤ 1 * (Mk.wt a.Data + 1)
  rw [i0]; omega
 have h1 := cntL_le i2 u.Progs
 have h2 := cntL_le i3 u.Procs
 have h3 := cntL_le i4 u.Opens
 have h4 := cntL_le i5 u.Pipes
 have h5 := cntL_le i6 u.Files
 rw [i0 u.Ready, i0 u.Out]
 omega
def AllNil (l : List DEff) : Prop := ∀ e ∈ l, e.L = []
theorem AllNil.app {l : List DEff} (h : AllNil l) (k a b c : Int) : AllNil (l ++ [eK k a b c]) := fun e he => by
 rcases List.mem_append.1 he with h1 | h1
 ·exact h e h1
 ·obtain rfl := List.mem_singleton.1 h1; rfl
theorem AllNil.wakeL : ∀ {l : List Int} {s : DUnix × List DEff}, AllNil s.2 → AllNil (wakeL s l).2
 | [], _, h => h
 | p :: l, s, h => AllNil.wakeL (l := l) (s := wakeT s p) ((h.app 3 p 1 0).app 21 p 0 0)
theorem AllNil.tickE (u : DUnix) : AllNil (tickE u).2 := by
 refine AllNil.wakeL ?_
 have h0 : AllNil ([] : List DEff) := fun e he => by cases he
 unfold tickS
 split
 ·exact ((h0.app 24 0 0 0).app 22 _ 0 0).app 21 _ 0 0
 ·exact h0.app 24 0 0 0
theorem cnt_effs {l : List DEff} (h : AllNil l) : Mk.cnt l ≤ l.length * 4 := by
 rw [cnt_list]
 refine cumN_bound (fun i hi => ?_) _ (Nat.le_refl _)
 have : (l.getD i En.dflt).L = [] := h _ (by simp [List.getD_eq_getElem?_getD, hi])
 show 1 + 1 + 1 + 1 + Mk.cnt (l.getD i En.dflt).L ≤ 4
 rw [this, cnt_ints]
 simp
theorem tickEff_cnt (u : DUnix) : Mk.cnt (tickEffU u) ≤ 400 := by
 unfold tickEffU
 split
 ·rename_i h
  have hS := shp_of h.1
  have h1 := cnt_effs (AllNil.tickE u)
  have h2 := tickS_len u
  have h3 := wakeL_len (dueL (tickS u).1.Tick (tickS u).1.Procs) (tickS u)
  have h4 := dueL_len (tickS u).1.Tick (tickS u).1.Procs
  have h5 := hS.tickS.procs
  have h6 : (tickE u).2.length = (wakeL (tickS u) (dueL (tickS u).1.Tick (tickS u).1.Procs)).2.length := rfl
  omega
 ·rw [cnt_list]; simp [cumN]
theorem TickEffectsS_con (u : DUnix) (hw : Mk.wt u ≤ 1048576) : Con Tryz.prog 39 [.g [.v (iv u.Next), .v (iv u.Tick), .h base [], .h (base + 1) [], .h (base + 2) [], .h (base + 3) [], .h (base + 4) [], .h (base + 5) [], .h (base + 6) []]] [.rt base .ro (tr u.Progs), .rt (base + 1) .ro (tr u.Procs), .rt (base + 2) .ro (tr u.Opens), .rt (base + 3) .ro (tr u.Pipes), .rt (base + 4) .ro (tr u.Files), .rt (base + 5) .ro (tr u.Ready), .rt (base + 6) .ro (tr u.Out)] (Ret (.h 0 []) [(0, .row, tr (tickEffU u))]) := by
 refine ob Tryz.func39 Tryz.ntmps39 ?_
 refine sr ?_
 refine bx ?_
 refine nm ?_
 refine qn ?_
 refine sr2 ?_
 refine qG ag31 sz31 ?_
 refine cv Tryz.call60 rfl rfl (UnixOkS_con u (unixB_of hw)) ?_
 refine nm ?_
 refine qq (Qt.notB rfl) ?_
 refine nc (fun c1 => ?_) fun c1 => ?_
 ·have k1 := c1
  try simp only [cnd] at c1
  refine sr ?_
  refine sp sS ?_
  refine nm ?_
  refine qn ?_
  have hk := k1
  refine AW.rep 6 (tr ([] : List DEff)) rfl sim_nil ?_
  refine rt1 2 ?_
  rw [show tickEffU u = [] from if_neg (by rintro ⟨q1, q2⟩; simp [q1] at hk)]
  refine ⟨fun _ => 6, rfl, nodup_of rfl, ?_⟩
  intro r hr
  cases List.mem_singleton.1 hr
  exact ⟨by simp, rootL_mem rfl⟩
 have k1 := c1
 try simp only [cnd] at c1
 have hok : unixOk u = true := by simpa using k1
 have hS := shp_of hok
 refine jd (sr ?_)
 refine qG ag31 sz31 ?_
 refine sp (Stp.callR rfl (by decide) Tryz.call68 rfl rfl (l6Copy_con u hw) (nodup_of rfl) rfl rfl) ?_
 refine nm ?_
 refine sp (Stp.callH rfl (by decide) Tryz.call91 rfl (l8Tick_con u hS) rfl rfl rfl (nodup_of rfl) rfl rfl) ?_
 refine nm ?_
 refine qq (Qt.field1 9 rfl Tryz.underlying112 rfl rfl ag59 rfl) ?_
 refine qr 2 ?_
 rw [← tick_eq hok]
 refine ⟨fun _ => 7009, rfl, nodup_of rfl, ?_⟩
 intro r hr
 cases List.mem_singleton.1 hr
 exact ⟨by simp, rootL_mem rfl⟩
theorem FnExactTickEffects_con (a : DUnix) : Con Tryz.prog 7 [.g [.v (iv a.Next), .v (iv a.Tick), .h base [], .h (base + 1) [], .h (base + 2) [], .h (base + 3) [], .h (base + 4) [], .h (base + 5) [], .h (base + 6) []]] [.rt base .ro (tr a.Progs), .rt (base + 1) .ro (tr a.Procs), .rt (base + 2) .ro (tr a.Opens), .rt (base + 3) .ro (tr a.Pipes), .rt (base + 4) .ro (tr a.Files), .rt (base + 5) .ro (tr a.Ready), .rt (base + 6) .ro (tr a.Out)] (fun y _ => y = .v (.bool true)) := by
 refine ob Tryz.func7 Tryz.ntmps7 ?_
 refine sr ?_
 refine bx ?_
 refine nm ?_
 refine qs' ?_
 refine qs' ?_
 refine qG ag41 sz41 ?_
 refine nm ?_
 refine qm ?_
 refine cv Tryz.call18 rfl rfl (szUnix_con _ _ (by first | omega | (repeat (first | omega | apply szd_lo))) (by first | omega | (repeat (first | omega | apply szd_hi)))) ?_
 refine nm ?_
 refine qn ?_
 refine sr2 ?_
 refine qm ?_
 refine qb ?_
 refine nc (fun c1 => ?_) fun c1 => ?_
 ·try simp only [cnd] at c1
  refine sr ?_
  refine qr 2 ?_
  first | rfl | (exfalso; simp_all; done)
 try simp only [cnd] at c1
 have hw : Mk.wt a ≤ 1048576 := by simp only [szd] at c1; omega
 have hca := cnt_unix hw
 have hce := tickEff_cnt a
 refine jd (sr ?_)
 refine qG ag41 sz41 ?_
 refine nm ?_
 refine sp (Stp.callR rfl (by decide) Tryz.call21 rfl rfl (toUnix_con _ (by first | omega | (simp only [Int.toNat_natCast]; omega) | (simp only [Mk.wt] at *; omega))) (nodup_of rfl) rfl rfl) ?_
 refine nm ?_
 refine sp (Stp.callR rfl (by decide) Tryz.call39 rfl rfl (TickEffectsS_con _ hw) (nodup_of rfl) rfl rfl) ?_
 refine nm ?_
 refine qs' ?_
 refine qG ag41 sz41 ?_
 refine sp (Stp.callR rfl (by decide) Tryz.call21 rfl rfl (toUnix_con _ (by first | omega | (simp only [Int.toNat_natCast]; omega) | (simp only [Mk.wt] at *; omega))) (nodup_of rfl) rfl rfl) ?_
 refine nm ?_
 refine sp sA ?_
 refine nm ?_
 refine ss ?_
 refine ns ?_
 refine qG ag31 sz31 ?_
 refine nm ?_
 refine sp (Stp.callR rfl (by decide) Tryz.call40 rfl rfl (TickEffectsI_con _ hw) (nodup_of rfl) rfl rfl) ?_
 refine nm ?_
 refine qn ?_
 refine sr2 ?_
 refine qm ?_
 refine mn ?_
 refine cv Tryz.call33 rfl rfl (eqEffS_con _ _) ?_
 refine nm ?_
 refine qq (Qt.notB rfl) ?_
 refine nl ?_
 refine AW.cond rfl (fun c2 => (by exfalso; first | (simp at c2; done) | (simp only [decide_eq_true_eq] at c2; omega))) (fun c2 => ?_)
 refine jd (AW.seq (AW.seq ?_))
 refine AW.draw [0, 1, 4] rfl (by decide +kernel) ?_
 refine tk 0 rfl (Qt.loadG rfl rfl rfl ag31 sz31 (by decide)) ?_
 refine tk 1 rfl (Qt.loadG rfl rfl rfl ag41 sz41 (by decide)) ?_
 refine na ?_
 refine a1 2 [0] [1] rfl rfl (Stp.callR rfl (by decide) Tryz.call21 rfl rfl (toUnix_con _ (by first | omega | (simp only [Int.toNat_natCast]; omega) | (simp only [Mk.wt] at *; omega))) (nodup_of rfl) rfl rfl) ?_
 refine na ?_
 refine ae rfl (Qt.loadG rfl rfl rfl ag31 sz31 (by decide)) ?_
 refine na ?_
 refine a1 3 [] [2, 0, 1] rfl rfl (Stp.callV rfl (by decide) Tryz.call24 rfl rfl (eqUnix_con _ _)) ?_
 refine na ?_
 refine na ?_
 refine tk 4 rfl (Qt.notB rfl) ?_
 refine nz ?_
 refine AW.cond rfl (fun c3 => (by exfalso; first | (simp at c3; done) | (simp only [decide_eq_true_eq] at c3; omega))) (fun c3 => ?_)
 refine jd (sr ?_)
 refine qs' ?_
 refine qG ag31 sz31 ?_
 refine nm ?_
 refine qm ?_
 refine sp (Stp.callH rfl (by decide) Tryz.call26 rfl (markUnix_con _ _ (by omega) (by omega)) rfl rfl rfl (nodup_of rfl) rfl rfl) ?_
 refine nm ?_
 refine qn ?_
 refine sr2 ?_
 refine qm ?_
 refine qb ?_
 refine nm ?_
 refine qm ?_
 refine AWL.split 37 rfl (fun g4 => (by exfalso; first | (simp at g4; done) | (simp only [decide_eq_true_eq] at g4; omega))) (fun g4 => ?_)
 refine qg (nF g4) Qt.move ?_
 refine qg (nF g4) Qt.move ?_
 refine nm ?_
 refine AWL.step rfl (nF g4) (Stp.callV rfl (by decide) Tryz.call33 rfl rfl (eqEffS_con _ _)) ?_
 refine nm ?_
 refine qg (nF g4) (Qt.notB rfl) ?_
 refine qq (Qt.pickF rfl g4) ?_
 refine nl ?_
 refine AW.cond rfl (fun c5 => (by exfalso; first | (simp at c5; done) | (simp only [decide_eq_true_eq] at c5; omega))) (fun c5 => ?_)
 refine jd (sr ?_)
 refine qs' ?_
 refine mn ?_
 refine qm ?_
 refine sp (Stp.callH rfl (by decide) Tryz.call34 rfl (markEffS_con _ _ (by omega) (by omega)) rfl rfl rfl (nodup_of rfl) rfl rfl) ?_
 refine nm ?_
 refine qs' ?_
 refine qs' ?_
 refine mn ?_
 refine qm ?_
 refine cv Tryz.call41 rfl rfl (heldEffS_con _ _ (by omega) (by omega)) ?_
 refine nm ?_
 refine qn ?_
 refine sr2 ?_
 refine qm ?_
 refine qb ?_
 refine nl ?_
 refine AW.cond rfl (fun c6 => (by exfalso; first | (simp at c6; done) | (simp only [decide_eq_true_eq] at c6; omega))) (fun c6 => ?_)
 refine jd (sr2 ?_)
 refine mn ?_
 refine qm ?_
 refine qb ?_
 refine nl ?_
 refine AW.cond rfl (fun c7 => (by exfalso; first | (simp at c7; done) | (simp only [decide_eq_true_eq] at c7; omega))) (fun c7 => ?_)
 refine jd (sr ?_)
 refine qG ag41 sz41 ?_
 refine nm ?_
 refine sp (Stp.callR rfl (by decide) Tryz.call21 rfl rfl (toUnix_con _ (by first | omega | (simp only [Int.toNat_natCast]; omega) | (simp only [Mk.wt] at *; omega))) (nodup_of rfl) rfl rfl) ?_
 refine nm ?_
 refine sp (Stp.callR rfl (by decide) Tryz.call40 rfl rfl (TickEffectsI_con _ hw) (nodup_of rfl) rfl rfl) ?_
 refine nm ?_
 refine qn ?_
 refine sr2 ?_
 refine qm ?_
 refine mn ?_
 refine cv Tryz.call33 rfl rfl (eqEffS_con _ _) ?_
 refine nm ?_
 refine qq (Qt.notB rfl) ?_
 refine nl ?_
 refine AW.cond rfl (fun c8 => (by exfalso; first | (simp at c8; done) | (simp only [decide_eq_true_eq] at c8; omega))) (fun c8 => ?_)
 refine jd (sr ?_)
 refine qs' ?_
 refine mn ?_
 refine qm ?_
 refine cv Tryz.call41 rfl rfl (heldEffS_con _ _ (by omega) (by omega)) ?_
 refine nm ?_
 refine qn ?_
 refine sr2 ?_
 refine qm ?_
 refine qb ?_
 refine nl ?_
 refine AW.cond rfl (fun c9 => (by exfalso; first | (simp at c9; done) | (simp only [decide_eq_true_eq] at c9; omega))) (fun c9 => ?_)
 refine jd (sr2 ?_)
 refine mn ?_
 refine qm ?_
 refine qb ?_
 refine nl ?_
 refine AW.cond rfl (fun c10 => (by exfalso; first | (simp at c10; done) | (simp only [decide_eq_true_eq] at c10; omega))) (fun c10 => ?_)
 refine jd (sr ?_)
 refine qr 2 ?_
 first | rfl | (exfalso; simp_all; done)
end Go.Proofs.YtfbefcmeghpalaaGreat.VM
