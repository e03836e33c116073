/- Contracts of functions of the program. No conditions beyond those that each states. -/
import Derived.Test.YtfbefcmeghpalaaGreatCW7
import Derived.Test.YtfbefcmeghpalaaGreatCUF
set_option linter.all false
set_option maxHeartbeats 8000000
set_option maxRecDepth 10000
namespace Go.Proofs.YtfbefcmeghpalaaGreat.VM
open Go Go.RowKit Go.Proofs
def tickEffU (u : DUnix) : List DEff := if unixOk u = true ∧ u.Tick ≠ 1000000 then (tickE u).2 else []
theorem shp_of {u : DUnix} (h : unixOk u = true) : Shp u := by
 simp only [unixOk, headOk, Bool.and_eq_true, decide_eq_true_eq] at h
 obtain ⟨⟨⟨⟨⟨⟨⟨h1, h2⟩, h3⟩, h4⟩, h5⟩, h6⟩, h7⟩, h8⟩ := h
 simp only [readyOk, Bool.and_eq_true, decide_eq_true_eq] at h8
 have hw := want_len (l := u.Procs) (k := u.Procs.length) (Nat.le_refl _)
 rw [List.take_length] at hw
 have hr := readyN_le u.Procs u.Procs.length
 have hp : u.Procs.length ≤ 6 := by omega
 exact ⟨by omega, by omega, hp, by omega, by omega⟩
theorem TickEffectsI_con (u : DUnix) (hw : Mk.wt u ≤ 1048576) : Con Tryz.prog 40 [.g [.v (iv u.Next), .v (iv u.Tick), .h base [], .h (base + 1) [], .h (base + 2) [], .h (base + 3) [], .h (base + 4) [], .h (base + 5) [], .h (base + 6) []]] [.rt base .ro (tr u.Progs), .rt (base + 1) .ro (tr u.Procs), .rt (base + 2) .ro (tr u.Opens), .rt (base + 3) .ro (tr u.Pipes), .rt (base + 4) .ro (tr u.Files), .rt (base + 5) .ro (tr u.Ready), .rt (base + 6) .ro (tr u.Out)] (Ret (.h 0 []) [(0, .row, tr (tickEffU u))]) := by
 refine ob Tryz.func40 Tryz.ntmps40 ?_
 refine sr ?_
 refine bx ?_
 refine nm ?_
 refine qn ?_
 refine sr2 ?_
 refine qG ag31 sz31 ?_
 refine cv Tryz.call45 rfl rfl (UnixOkI_con u (unixB_of hw)) ?_
 refine nm ?_
 refine qq (Qt.notB rfl) ?_
 refine qm ?_
 apply AWL.cut 3
 ·intro Kg1
  refine AWL.splitF 10 rfl (fun g1 => ?_) (fun g1 => ?_)
  ·have eg1 := g1
   try simp only [cnd] at eg1
   refine qg (nF g1) (fA fl31_1) ?_
   refine nm ?_
   refine qg (nF g1) (Qt.load1 rfl rfl rfl ag3) ?_
   refine qg (nF g1) (Qt.binOp rfl rfl rfl) ?_
   exact wj 13 [11, 12, 13] (ifF g1 _ undef) (by simp only [go_sem, reduceIte, Nat.reduceEqDiff, Nat.reduceBEq, reduceCtorEq]; rfl) Kg1
  ·refine og (nT g1) ?_
   refine og (nT g1) ?_
   refine og (nT g1) ?_
   exact wj 13 [11, 12, 13] (ifT g1 undef _) (by simp only [go_sem, reduceIte, Nat.reduceEqDiff, Nat.reduceBEq, reduceCtorEq]) Kg1
 refine qq (Qt.pickOr rfl rfl rfl) ?_
 refine nc (fun c2 => ?_) fun c2 => ?_
 ·have k2 := c2
  try simp only [cnd] at c2
  refine sr ?_
  refine qn ?_
  have hk := k2
  refine AW.nilRow 2 900 5 (by omega) rfl rfl (by decide) ?_
  refine AW.rep 900 (tr ([] : List DEff)) rfl sim_nil ?_
  refine rt1 2 ?_
  rw [show tickEffU u = [] from if_neg (by rintro ⟨q1, q2⟩; simp [q1, q2] at hk)]
  refine ⟨fun _ => 900, rfl, nodup_of rfl, ?_⟩
  intro r hr
  cases List.mem_singleton.1 hr
  exact ⟨by simp, rootL_mem rfl⟩
 have k2 := c2
 try simp only [cnd] at c2
 have hok : unixOk u = true ∧ u.Tick ≠ 1000000 := by
  have hk := k2
  simp at hk
  exact hk
 have hS := shp_of hok.1
 have hS0 : Shp (doT (u, []) (eK 24 0 0 0)).1 := hS.app _
 refine jd (sr ?_)
 refine qG ag31 sz31 ?_
 refine nm ?_
 refine sp (Stp.callR rfl (by decide) Tryz.call73 rfl rfl (cloneUnix_con u hw) (nodup_of rfl) rfl rfl) ?_
 refine nm ?_
 refine qq (Qt.build rfl) ?_
 refine bx ?_
 refine nm ?_
 refine AWL.weak (Weak.sink 16 18 2 rfl (by decide) rfl rfl rfl rfl) ?_
 refine AWL.weak (Weak.sink 1016 18 3 rfl (by decide) rfl rfl rfl rfl) ?_
 refine AWL.weak (Weak.sink 2016 18 4 rfl (by decide) rfl rfl rfl rfl) ?_
 refine AWL.weak (Weak.sink 3016 18 5 rfl (by decide) rfl rfl rfl rfl) ?_
 refine AWL.weak (Weak.sink 4016 18 6 rfl (by decide) rfl rfl rfl rfl) ?_
 refine AWL.weak (Weak.sink 5016 18 7 rfl (by decide) rfl rfl rfl rfl) ?_
 refine AWL.weak (Weak.sink 6016 18 8 rfl (by decide) rfl rfl rfl rfl) ?_
 refine AWL.weak (L' := [.sl 18 (.p 18 [] 10 0 0), .rt 18 .box (T.s 10 1 fun _ c => [T.v (iv u.Next), T.v (iv u.Tick), tr u.Progs, tr u.Procs, tr u.Opens, tr u.Pipes, tr u.Files, tr u.Ready, tr u.Out, tr ([] : List DEff)].getD c T.j)]) (Weak.sim ⟨rfl, ⟨_, rfl, (sc_sim (n := 10) (fun c hc => match c, hc with | 0, _ => T.sim_refl _ | 1, _ => T.sim_refl _ | 2, _ => T.sim_refl _ | 3, _ => T.sim_refl _ | 4, _ => T.sim_refl _ | 5, _ => T.sim_refl _ | 6, _ => T.sim_refl _ | 7, _ => T.sim_refl _ | 8, _ => T.sim_refl _ | 9, _ => sim_nil | c + 10, hc => absurd hc (by omega)))⟩, trivial⟩ rfl rfl) ?_
 refine qs' ?_
 refine qm ?_
 refine qq (Qt.build rfl) ?_
 refine nm ?_
 refine sp (Stp.callH rfl (by decide) Tryz.call92 rfl (doT_con u [] 24 0 0 0 hS (by simp) (.inr (.inr (.inr rfl)))) rfl rfl rfl (nodup_of rfl) rfl rfl) ?_
 refine nl ?_
 refine AW.seq ?_
 refine AW.cut [.sl 3 (.p 18 [] 10 0 0), .rt 18 .box (T.s 10 1 fun _ c => [T.v (iv (tickS u).1.Next), T.v (iv (tickS u).1.Tick), tr (tickS u).1.Progs, tr (tickS u).1.Procs, tr (tickS u).1.Opens, tr (tickS u).1.Pipes, tr (tickS u).1.Files, tr (tickS u).1.Ready, tr (tickS u).1.Out, tr (tickS u).2].getD c T.j)] ?_ ?_
 ·refine sr ?_
  refine mn ?_
  refine qq (Qt.nilCheck rfl) ?_
  refine qq (fA fl116_0) ?_
  refine qq (fA fl31_7) ?_
  refine nm ?_
  refine ql ag29 ?_
  refine qh sl29 ?_
  refine qb ?_
  refine nc (fun c3 => ?_) fun c3 => ?_
  ·try simp only [cnd] at c3
   refine sr ?_
   refine mn ?_
   refine qq (Qt.nilCheck rfl) ?_
   refine qq (fA fl116_0) ?_
   refine qq (fA fl31_7) ?_
   refine nm ?_
   refine ql ag29 ?_
   refine qq (ix sl29 sz3) ?_
   refine ql ag3 ?_
   refine nm ?_
   refine qs' ?_
   refine qm ?_
   refine mn ?_
   refine qq (Qt.build rfl) ?_
   refine sp (Stp.callH rfl (by decide) Tryz.call92 rfl (doT_con (doT (u, []) (eK 24 0 0 0)).1 (doT (u, []) (eK 24 0 0 0)).2 22 ((doT (u, []) (eK 24 0 0 0)).1.Ready.getD 0 En.dflt) 0 0 hS0 (by simp [doT]) (.inr (.inr (.inl rfl)))) rfl rfl rfl (nodup_of rfl) rfl rfl) ?_
   refine nl ?_
   refine AW.region ?_
   refine mn ?_
   refine qm ?_
   refine qq (Qt.build rfl) ?_
   refine sp (Stp.callH rfl (by decide) Tryz.call92 rfl (doT_con (doT (doT (u, []) (eK 24 0 0 0)) (eK 22 ((doT (u, []) (eK 24 0 0 0)).1.Ready.getD 0 En.dflt) 0 0)).1 (doT (doT (u, []) (eK 24 0 0 0)) (eK 22 ((doT (u, []) (eK 24 0 0 0)).1.Ready.getD 0 En.dflt) 0 0)).2 21 ((doT (u, []) (eK 24 0 0 0)).1.Ready.getD 0 En.dflt) 0 0 (hS0.app _) (by simp [doT]) (.inr (.inl rfl))) rfl rfl rfl (nodup_of rfl) rfl rfl) ?_
   refine nl ?_
   exact Weak.sim ⟨rfl, ⟨_, rfl, (by rw [show tickS u = (doT (doT (doT (u, []) (eK 24 0 0 0)) (eK 22 ((doT (u, []) (eK 24 0 0 0)).1.Ready.getD 0 En.dflt) 0 0)) (eK 21 ((doT (u, []) (eK 24 0 0 0)).1.Ready.getD 0 En.dflt) 0 0)) from if_pos (by first | exact c3 | omega)]; exact T.sim_refl _)⟩, trivial⟩ rfl rfl
  try simp only [cnd] at c3
  refine jd ?_
  exact Weak.sim ⟨rfl, ⟨_, rfl, (by rw [show tickS u = (doT (u, []) (eK 24 0 0 0)) from if_neg (by show ¬ (2 : Int) ≤ ((applyT u (eK 24 0 0 0)).1.Ready.length : Int); omega)]; exact T.sim_refl _)⟩, trivial⟩ rfl rfl
 ·refine sr2 ?_
  refine mn ?_
  refine qq (Qt.nilCheck rfl) ?_
  refine qq (fA fl116_0) ?_
  refine qq (fA fl31_3) ?_
  refine nm ?_
  refine ql ag25 ?_
  refine sp (Stp.callR rfl (by decide) Tryz.call93 rfl rfl (cloneP_con _ (by have := hS.tickS.procs; omega)) (nodup_of rfl) rfl rfl) ?_
  refine nm ?_
  refine qh sl25 ?_
  refine qm ?_
  refine nl ?_
  refine AW.block ?_
  refine AW.loopW (fun i : TkInv u => [.sl 51 (.v (iv i.k)), .sl 50 (.v (iv (tickS u).1.Procs.length)), .sl 49 (.h 49 []), .rt 49 .row (flT (tickS u).1.Procs), .sl 3 (.p 18 [] 10 0 0), .rt 18 .box (T.s 10 1 fun _ c => [T.v (iv i.s.1.Next), T.v (iv i.s.1.Tick), tr i.s.1.Progs, tr i.s.1.Procs, tr i.s.1.Opens, tr i.s.1.Pipes, tr i.s.1.Files, tr i.s.1.Ready, tr i.s.1.Out, tr i.s.2].getD c T.j)]) (fun i => (tickS u).1.Procs.length - i.k) ⟨0, Nat.zero_le _⟩ (Weak.sim ⟨rfl, rfl, rfl, Rf rfl, rfl, Rf rfl, trivial⟩ rfl rfl) ?_
  intro i
  have hle := i.le
  have hsp := i.shp hS
  have hsl := i.len hS
  have hpl := hS.tickS.procs
  refine sr ?_
  refine qb ?_
  refine nl ?_
  refine AW.seq ?_
  refine cd (fun c4 => ?_) fun c4 => ?_
  ·try simp only [cnd] at c4
   refine jd (AW.seq (AW.block (sr ?_)))
   refine qq (ix sl25 sz72) ?_
   refine nm ?_
   refine qG ag72 sz72 ?_
   refine sp sA ?_
   refine nm ?_
   refine ss ?_
   refine nl ?_
   refine AW.seq ?_
   refine AW.draw [0, 1, 2, 3, 4, 5, 6, 7, 8, 9, 10, 11, 12] rfl (by decide +kernel) ?_
   refine tk 0 rfl (fA fl72_2) ?_
   refine na ?_
   refine tk 1 rfl (Qt.load1 rfl rfl rfl ag3) ?_
   refine tk 2 rfl (Qt.binOp rfl rfl rfl) ?_
   refine tk 3 rfl Qt.move ?_
   refine na ?_
   refine AWA.split 58 rfl (fun g5 => ?_) (fun g5 => ?_)
   ·refine tg 4 rfl g5 (fA fl72_7) ?_
    refine tg 5 rfl g5 (Qt.load1 rfl rfl rfl ag3) ?_
    refine tg 6 rfl g5 Qt.move ?_
    refine na ?_
    refine tg 7 rfl g5 (Qt.nilCheck rfl) ?_
    refine tg 8 rfl g5 (fA fl116_0) ?_
    refine tg 9 rfl g5 (fA fl31_1) ?_
    refine na ?_
    refine tg 10 rfl g5 (Qt.load1 rfl rfl rfl ag3) ?_
    refine tg 11 rfl g5 (Qt.binOp rfl rfl rfl) ?_
    refine tk 12 rfl (Qt.pickT rfl g5) ?_
    refine na ?_
    refine nz ?_
    refine cd (fun c6 => ?_) fun c6 => ?_
    ·have k6 := c6
     try simp only [cnd] at c6
     have hdue : dueP (tickS u).1.Tick ((tickS u).1.Procs.getD i.k En.dflt) = true := by
      have hk := k6
      unfold dueP
      rw [← i.tick]
      first | grind only | simp_all
     refine AW.region ?_
     refine qm ?_
     refine qq (fA fl72_0) ?_
     refine ql ag3 ?_
     refine nm ?_
     refine sp (Stp.callH rfl (by decide) Tryz.call94 rfl (wakeT_con i.s.1 i.s.2 _ (i.shp hS) (by have := i.len hS; omega)) rfl rfl rfl (nodup_of rfl) rfl rfl) ?_
     refine nl ?_
     refine AW.region ?_
     refine ba ?_
     refine nm ?_
     refine qm ?_
     refine nl ?_
     refine ⟨⟨i.k + 1, by omega⟩, Weak.sim ⟨st1, rfl, rfl, Rf rfl, rfl, ⟨_, rfl, (by rw [← i.yes (by omega) hdue]; exact T.sim_refl _)⟩, trivial⟩ rfl rfl, ?_⟩
     show (tickS u).1.Procs.length - (i.k + 1) < (tickS u).1.Procs.length - i.k
     omega
    have k6 := c6
    try simp only [cnd] at c6
    have hdue : dueP (tickS u).1.Tick ((tickS u).1.Procs.getD i.k En.dflt) = false := by
     have hk := k6
     unfold dueP
     rw [← i.tick]
     first | grind only | simp_all
    refine jd (AW.region ?_)
    refine ba ?_
    refine qm ?_
    refine nl ?_
    refine ⟨⟨i.k + 1, by omega⟩, Weak.sim ⟨st1, rfl, rfl, Rf rfl, rfl, ⟨_, rfl, (by rw [← i.no (by omega) hdue]; exact T.sim_refl _)⟩, trivial⟩ rfl rfl, ?_⟩
    show (tickS u).1.Procs.length - (i.k + 1) < (tickS u).1.Procs.length - i.k
    omega
   refine tf 4 g5 ?_
   refine na ?_
   refine tf 5 g5 ?_
   refine tf 6 g5 ?_
   refine tf 7 g5 ?_
   refine na ?_
   refine tf 8 g5 ?_
   refine tf 9 g5 ?_
   refine tf 10 g5 ?_
   refine na ?_
   refine tf 11 g5 ?_
   refine tk 12 rfl (Qt.pickF rfl g5) ?_
   refine nz ?_
   refine cd (fun c7 => ?_) fun c7 => ?_
   ·have k7 := c7
    try simp only [cnd] at c7
    have hdue : dueP (tickS u).1.Tick ((tickS u).1.Procs.getD i.k En.dflt) = true := by
     have hk := k7
     unfold dueP
     rw [← i.tick]
     first | grind only | simp_all
    refine AW.region ?_
    refine mn ?_
    refine qq (fA fl72_0) ?_
    refine ql ag3 ?_
    refine sp (Stp.callH rfl (by decide) Tryz.call94 rfl (wakeT_con i.s.1 i.s.2 _ (i.shp hS) (by have := i.len hS; omega)) rfl rfl rfl (nodup_of rfl) rfl rfl) ?_
    refine nl ?_
    refine AW.region ?_
    refine ba ?_
    refine nm ?_
    refine qm ?_
    refine nl ?_
    refine ⟨⟨i.k + 1, by omega⟩, Weak.sim ⟨st1, rfl, rfl, Rf rfl, rfl, ⟨_, rfl, (by rw [← i.yes (by omega) hdue]; exact T.sim_refl _)⟩, trivial⟩ rfl rfl, ?_⟩
    show (tickS u).1.Procs.length - (i.k + 1) < (tickS u).1.Procs.length - i.k
    omega
   have k7 := c7
   try simp only [cnd] at c7
   have hdue : dueP (tickS u).1.Tick ((tickS u).1.Procs.getD i.k En.dflt) = false := by
    have hk := k7
    unfold dueP
    rw [← i.tick]
    first | grind only | simp_all
   refine jd (AW.region ?_)
   refine ba ?_
   refine qm ?_
   refine nl ?_
   refine ⟨⟨i.k + 1, by omega⟩, Weak.sim ⟨st1, rfl, rfl, Rf rfl, rfl, ⟨_, rfl, (by rw [← i.no (by omega) hdue]; exact T.sim_refl _)⟩, trivial⟩ rfl rfl, ?_⟩
   show (tickS u).1.Procs.length - (i.k + 1) < (tickS u).1.Procs.length - i.k
   omega
  try simp only [cnd] at c4
  refine AW.exit ?_
  dsimp only [thenQ, blockQ, reduceIte]
  refine sr ?_
  refine mn ?_
  refine qq (Qt.nilCheck rfl) ?_
  refine qq (fA fl116_1) ?_
  refine ql ag59 ?_
  refine nm ?_
  refine qn ?_
  refine AW.rep 18 (T.s 10 1 fun _ c => [T.v (iv (tickE u).1.Next), T.v (iv (tickE u).1.Tick), tr (tickE u).1.Progs, tr (tickE u).1.Procs, tr (tickE u).1.Opens, tr (tickE u).1.Pipes, tr (tickE u).1.Files, tr (tickE u).1.Ready, tr (tickE u).1.Out, tr (tickE u).2].getD c T.j) rfl (by rw [← i.full (by omega)]; exact T.sim_refl _) ?_
  refine AW.weak (Weak.float 2 0 900 rfl rfl rfl rfl rfl (by decide)) ?_
  refine rt1 2 ?_
  rw [show tickEffU u = (tickE u).2 from if_pos hok]
  refine ⟨fun _ => 900, rfl, nodup_of rfl, ?_⟩
  intro r hr
  cases List.mem_singleton.1 hr
  exact ⟨by simp, rootL_mem rfl⟩
end Go.Proofs.YtfbefcmeghpalaaGreat.VM
