/- Contracts of functions of the program. No conditions beyond those that each states. -/
import Derived.Test.YtfbefcmeghpalaaGreatCWG
import Derived.Test.YtfbefcmeghpalaaGreatCWF
import Derived.Test.YtfbefcmeghpalaaGreatCUF
set_option linter.all false
set_option maxHeartbeats 8000000
set_option maxRecDepth 10000
namespace Go.Proofs.YtfbefcmeghpalaaGreat.VM
open Go Go.RowKit Go.Proofs
theorem wtL_leM {α : Type} {w : α → Nat} {m : Nat} : ∀ {l : List α}, (∀ a ∈ l, w a ≤ m) → wtL w l ≤ l.length * m
 | [], _ => by simp [wtL]
 | a :: l, h => by
  have h1 := wtL_leM (l := l) fun b hb => h b (List.mem_cons_of_mem _ hb)
  have h2 := h a (List.mem_cons_self ..)
  simp only [wtL, List.map_cons, List.foldr_cons, List.length_cons, Nat.add_mul] at h1 ⊢
  omega
def w0 (u : DUnix) : Nat := Mk.wt u.Progs + Mk.wt u.Procs + Mk.wt u.Opens + Mk.wt u.Pipes + Mk.wt u.Files + Mk.wt u.Out
theorem wtL_set {α : Type} {w : α → Nat} : ∀ {l : List α} {i : Nat} {a d : α}, (i < l.length → w a = w (l.getD i d)) → wtL w (l.set i a) = wtL w l
 | [], i, _, _, _ => by simp
 | b :: l, 0, a, d, h => by
  have := h (by simp)
  simp only [List.getD_cons_zero] at this
  simp [wtL, this]
 | b :: l, i + 1, a, d, h => by
  have := wtL_set (l := l) (i := i) (a := a) (d := d) fun hi => by simpa using h (by simpa using hi)
  simp only [wtL, List.set_cons_succ, List.map_cons, List.foldr_cons] at this ⊢
  omega
theorem w0_app (u : DUnix) (e : DEff) (hk : e.Kind = 3 ∨ e.Kind = 21 ∨ e.Kind = 22 ∨ e.Kind = 24) : w0 (applyT u e).1 = w0 u := by
 unfold applyT
 split
 ·split
  ·rfl
  ·show w0 (setProc u _ _) = _
   have hs := wtL_set (w := (Mk.wt : DProc → Nat)) (l := u.Procs) (i := (procAt u e.A).toNat) (a := { u.Procs.getD (procAt u e.A).toNat En.dflt with State := e.B, Until := e.C }) (d := En.dflt) (fun _ => rfl)
   have : Mk.wt (u.Procs.set (procAt u e.A).toNat { u.Procs.getD (procAt u e.A).toNat En.dflt with State := e.B, Until := e.C }) = Mk.wt u.Procs := by
    rw [wt_list, wt_list, List.length_set]
    exact congrArg (u.Procs.length + ·) hs
   simp only [w0, setProc, this]
 ·unfold restF
  repeat' split
  all_goals first | rfl | (exfalso; omega)
theorem unixOk_w0 {u : DUnix} (h : unixOk u = true) : w0 u ≤ 1000 := by
 have hS := shp_of h
 have hp := hS.procs
 have ho := hS.out
 simp only [unixOk, headOk, Bool.and_eq_true, decide_eq_true_eq] at h
 obtain ⟨⟨⟨⟨⟨⟨⟨h1, h2⟩, h3⟩, h4⟩, h5⟩, h6⟩, h7⟩, h8⟩ := h
 have i0 : ∀ l : List Int, Mk.wt l = l.length := fun l => wt_ints l
 have e1 : Mk.wt u.Progs ≤ 300 := by
  have hq : progsOk u.Progs = true := h1.1.1.1.2
  simp only [progsOk, Bool.and_eq_true, decide_eq_true_eq, List.all_eq_true] at hq
  have := wtL_leM (w := Mk.wt) (m := 40) (l := u.Progs) fun p hp => by
   have := hq.2 p hp
   simp only [progOk, Bool.and_eq_true, decide_eq_true_eq] at this
   rw [wt_list, wtL_zero (w := (Mk.wt : DIns → Nat)) (fun _ => rfl)]
   omega
  rw [wt_list]; omega
 have e2 : Mk.wt u.Procs ≤ 150 := by
  have := wtL_leM (w := Mk.wt) (m := 20) (l := u.Procs) fun p hpm => by
   obtain ⟨i, hi, rfl⟩ := List.mem_iff_getElem.1 hpm
   have hpi := (procsOk_at h4 hi).2
   rw [show u.Procs.getD i En.dflt = u.Procs[i] by simp [hi]] at hpi
   have hq := procOk_parts hpi
   have hr : u.Procs[i].Cpu.Regs.length = 4 := by
    simp only [procOk, procS, cpuOk, Bool.and_eq_true, decide_eq_true_eq, beq_iff_eq] at hpi
    omega
   show Mk.wt u.Procs[i].Cpu.Regs + Mk.wt u.Procs[i].Mem + Mk.wt u.Procs[i].Fds ≤ 20
   rw [i0, i0, i0]; omega
  rw [wt_list]; omega
 have e3 : Mk.wt u.Opens ≤ 8 := by
  rw [wt_list, wtL_zero (w := (Mk.wt : DOpen → Nat)) (fun _ => rfl)]; omega
 have e4 : Mk.wt u.Pipes ≤ 20 := by
  simp only [pipesOk, Bool.and_eq_true, decide_eq_true_eq] at h6
  have := wtL_leM (w := Mk.wt) (m := 4) (l := u.Pipes) fun p hpm => by
   obtain ⟨i, hi, rfl⟩ := List.mem_iff_getElem.1 hpm
   have hpi := allIx_iff.1 h6.1 i hi
   rw [show u.Pipes.getD i En.dflt = u.Pipes[i] by simp [hi]] at hpi
   simp only [pipeOk, Bool.and_eq_true, decide_eq_true_eq] at hpi
   show Mk.wt u.Pipes[i].Data ≤ 4
   rw [i0]; omega
  rw [wt_list]; omega
 have e5 : Mk.wt u.Files ≤ 60 := by
  simp only [filesOk, Bool.and_eq_true, decide_eq_true_eq] at h7
  have := wtL_leM (w := Mk.wt) (m := 8) (l := u.Files) fun p hpm => by
   obtain ⟨i, hi, rfl⟩ := List.mem_iff_getElem.1 hpm
   have hpi := allIx_iff.1 h7.1 i hi
   rw [show u.Files.getD i En.dflt = u.Files[i] by simp [hi]] at hpi
   simp only [fileOk, Bool.and_eq_true, decide_eq_true_eq] at hpi
   show Mk.wt u.Files[i].Data ≤ 8
   rw [i0]; omega
  rw [wt_list]; omega
 have e6 : Mk.wt u.Out ≤ 60 := by rw [i0]; omega
 simp only [w0]
 omega
def AllK (l : List DEff) : Prop := ∀ e ∈ l, e.Kind = 3 ∨ e.Kind = 21 ∨ e.Kind = 22 ∨ e.Kind = 24
/-- effects of a tick, and what they make of it -/
structure Trk (u : DUnix) (s : DUnix × List DEff) : Prop where
 k : AllK s.2
 f : s.1 = foldU u s.2
 w : w0 s.1 = w0 u
theorem Trk.doT {u : DUnix} {s : DUnix × List DEff} (h : Trk u s) (k a b c : Int) (hk : k = 3 ∨ k = 21 ∨ k = 22 ∨ k = 24) : Trk u (doT s (eK k a b c)) :=
 ⟨(fun e he => by
  rcases List.mem_append.1 he with h1 | h1
  ·exact h.k e h1
  ·obtain rfl := List.mem_singleton.1 h1; exact hk), (by
  show (applyT s.1 _).1 = foldU u (s.2 ++ [_])
  rw [foldU_snoc, ← h.f]), (w0_app _ _ hk).trans h.w⟩
theorem Trk.wake {u : DUnix} {s : DUnix × List DEff} (h : Trk u s) (p : Int) : Trk u (wakeT s p) := (h.doT 3 p 1 0 (.inl rfl)).doT 21 p 0 0 (.inr (.inl rfl))
theorem Trk.wakeL {u : DUnix} : ∀ {l : List Int} {s : DUnix × List DEff}, Trk u s → Trk u (wakeL s l)
 | [], _, h => h
 | p :: l, s, h => Trk.wakeL (l := l) (h.wake p)
theorem Trk.tickE (u : DUnix) : Trk u (tickE u) := by
 refine Trk.wakeL ?_
 have h0 : Trk u ((u, ([] : List DEff))) := ⟨(fun e he => by cases he), rfl, rfl⟩
 have h1 := h0.doT 24 0 0 0 (.inr (.inr (.inr rfl)))
 unfold tickS
 split
 ·exact (h1.doT 22 _ 0 0 (.inr (.inr (.inl rfl)))).doT 21 _ 0 0 (.inr (.inl rfl))
 ·exact h1
theorem tickEff_k (u : DUnix) : AllK (tickEffU u) := by
 unfold tickEffU
 split
 ·exact (Trk.tickE u).k
 ·exact fun e he => by cases he
theorem tick_fold {u : DUnix} (h : unixOk u = true) : foldU u (tickEffU u) = (tickW u).1 := by
 rw [← tick_eq h]
 unfold tickW
 split
 ·rfl
 ·exact (Trk.tickE u).f.symm
theorem tickW_wt {u : DUnix} (h : unixOk u = true) : Mk.wt (tickW u).1 ≤ 1048576 := by
 have h0 := unixOk_w0 h
 have hS := shp_of h
 have h1 : w0 (tickW u).1 = w0 u := by
  unfold tickW
  split
  ·rfl
  ·exact (Trk.tickE u).w
 have h2 : Shp (tickW u).1 := by
  unfold tickW
  split
  ·exact hS
  ·exact hS.tickS.wakeL _
 have h3 := h2.ready
 show Mk.wt (tickW u).1.Progs + Mk.wt (tickW u).1.Procs + Mk.wt (tickW u).1.Opens + Mk.wt (tickW u).1.Pipes + Mk.wt (tickW u).1.Files + Mk.wt (tickW u).1.Ready + Mk.wt (tickW u).1.Out ≤ 1048576
 simp only [w0] at h0 h1
 rw [wt_ints]
 omega
def zeroU : DUnix := ⟨0, 0, [], [], [], [], [], [], []⟩
def tickU (u : DUnix) : DUnix := if unixOk u = true then (tickW u).1 else zeroU
theorem TickI_con (u : DUnix) (hw : Mk.wt u ≤ 1048576) : Con Tryz.prog 17 [.g [.v (iv u.Next), .v (iv u.Tick), .h base [], .h (base + 1) [], .h (base + 2) [], .h (base + 3) [], .h (base + 4) [], .h (base + 5) [], .h (base + 6) []]] [.rt base .ro (tr u.Progs), .rt (base + 1) .ro (tr u.Procs), .rt (base + 2) .ro (tr u.Opens), .rt (base + 3) .ro (tr u.Pipes), .rt (base + 4) .ro (tr u.Files), .rt (base + 5) .ro (tr u.Ready), .rt (base + 6) .ro (tr u.Out)] (Ret (.g [.v (iv (tickU u).Next), .v (iv (tickU u).Tick), .h 0 [], .h 1 [], .h 2 [], .h 3 [], .h 4 [], .h 5 [], .h 6 []]) [(0, .row, tr (tickU u).Progs), (1, .row, tr (tickU u).Procs), (2, .row, tr (tickU u).Opens), (3, .row, tr (tickU u).Pipes), (4, .row, tr (tickU u).Files), (5, .row, tr (tickU u).Ready), (6, .row, tr (tickU u).Out)]) := by
 refine ob Tryz.func17 Tryz.ntmps17 ?_
 refine sr ?_
 refine bx ?_
 refine nm ?_
 refine sp sA ?_
 refine nl ?_
 refine sr2 ?_
 refine qG ag31 sz31 ?_
 refine nm ?_
 refine cv Tryz.call45 rfl rfl (UnixOkI_con u (unixB_of hw)) ?_
 refine nm ?_
 refine qq (Qt.notB rfl) ?_
 refine nc (fun c1 => ?_) fun c1 => ?_
 ·have k1 := c1
  try simp only [cnd] at c1
  have hno : ¬ unixOk u = true := by simpa using k1
  refine sr ?_
  refine qq (Qt.build rfl) ?_
  refine ss ?_
  refine nl ?_
  refine AW.weak (Weak.hoist 2 2 901 rfl (by decide) rfl rfl rfl) ?_
  refine AW.weak (Weak.hoist 2 3 902 rfl (by decide) rfl rfl rfl) ?_
  refine AW.weak (Weak.hoist 2 4 903 rfl (by decide) rfl rfl rfl) ?_
  refine AW.weak (Weak.hoist 2 5 904 rfl (by decide) rfl rfl rfl) ?_
  refine AW.weak (Weak.hoist 2 6 905 rfl (by decide) rfl rfl rfl) ?_
  refine AW.weak (Weak.hoist 2 7 906 rfl (by decide) rfl rfl rfl) ?_
  refine AW.weak (Weak.hoist 2 8 907 rfl (by decide) rfl rfl rfl) ?_
  refine AW.weak (L' := [.sl 2 (.p 2 [] 9 0 0), .rt 2 .box (T.s 9 1 fun _ c => [T.v (iv zeroU.Next), T.v (iv zeroU.Tick), T.j, T.j, T.j, T.j, T.j, T.j, T.j].getD c T.j), .al 2 2 (.h 901 []), .al 2 3 (.h 902 []), .al 2 4 (.h 903 []), .al 2 5 (.h 904 []), .al 2 6 (.h 905 []), .al 2 7 (.h 906 []), .al 2 8 (.h 907 []), .rt 901 .row (tr zeroU.Progs), .rt 902 .row (tr zeroU.Procs), .rt 903 .row (tr zeroU.Opens), .rt 904 .row (tr zeroU.Pipes), .rt 905 .row (tr zeroU.Files), .rt 906 .row (tr zeroU.Ready), .rt 907 .row (tr zeroU.Out)]) (Weak.sim ⟨rfl, ⟨_, rfl, (sc_sim (n := 9) (fun c hc => match c, hc with | 0, _ => T.sim_refl _ | 1, _ => T.sim_refl _ | 2, _ => T.sim_refl _ | 3, _ => T.sim_refl _ | 4, _ => T.sim_refl _ | 5, _ => T.sim_refl _ | 6, _ => T.sim_refl _ | 7, _ => T.sim_refl _ | 8, _ => T.sim_refl _ | c + 9, hc => absurd hc (by omega)))⟩, ⟨rfl, rfl⟩, ⟨rfl, rfl⟩, ⟨rfl, rfl⟩, ⟨rfl, rfl⟩, ⟨rfl, rfl⟩, ⟨rfl, rfl⟩, ⟨rfl, rfl⟩, ⟨_, rfl, sim_nil⟩, ⟨_, rfl, sim_nil⟩, ⟨_, rfl, sim_nil⟩, ⟨_, rfl, sim_nil⟩, ⟨_, rfl, sim_nil⟩, ⟨_, rfl, sim_nil⟩, ⟨_, rfl, sim_nil⟩, trivial⟩ rfl rfl) ?_
  refine AW.ret (endQ_ret (.cons (.cellG 2 31 rfl rfl rfl ag31 sz31 (by decide)) .nil) ?_)
  rw [show tickU u = zeroU from if_neg hno]
  refine ⟨fun i => if i = 0 then 901 else if i = 1 then 902 else if i = 2 then 903 else if i = 3 then 904 else if i = 4 then 905 else if i = 5 then 906 else 907, rfl, nodup_of rfl, ?_⟩
  intro r hr
  simp only [List.mem_cons, List.not_mem_nil, or_false] at hr
  rcases hr with rfl | rfl | rfl | rfl | rfl | rfl | rfl <;> exact ⟨by simp, rootL_mem rfl⟩
 have k1 := c1
 try simp only [cnd] at c1
 have hok : unixOk u = true := by simpa using k1
 have hS := shp_of hok
 have hwt := tickW_wt hok
 refine jd (AW.seq ?_)
 refine AW.draw [0, 1, 4, 5, 6, 9] rfl (by decide +kernel) ?_
 refine tk 0 rfl (Qt.loadG rfl rfl rfl ag31 sz31 (by decide)) ?_
 refine na ?_
 refine tk 1 rfl (Qt.loadG rfl rfl rfl ag31 sz31 (by decide)) ?_
 apply AWA.cutS #[true, true, true, true, true, true, true, true, false, false] [4, 5, 6]
 ·intro K3_1
  apply AWA.cutS #[true, true, true, false, false, false, false, true, false, false] [0]
  ·intro K3_0
   refine AWA.anyL [2, 7] (by decide +kernel) rfl ⟨?_, ?_, trivial⟩
   ·refine AWA.arm 2 [0] [1] rfl rfl rfl (by decide +kernel) (by decide +kernel) (by decide +kernel) (Stp.callR rfl (by decide) Tryz.call40 rfl rfl (TickEffectsI_con u hw) (nodup_of rfl) rfl rfl) ?_
    refine na ?_
    refine ae rfl (Qt.loadG rfl rfl rfl ag31 sz31 (by decide)) ?_
    refine na ?_
    refine AWA.anyL [3, 7] (by decide +kernel) rfl ⟨?_, ?_, trivial⟩
    ·refine AWA.arm 3 [] [2, 0, 1] rfl rfl rfl (by decide +kernel) (by decide +kernel) (by decide +kernel) (Stp.callR rfl (by decide) Tryz.call32 rfl rfl (ApplyAllT_con u (tickEffU u) hw hS (tickEff_k u)) (nodup_of rfl) rfl rfl) ?_
     refine na ?_
     refine AWA.take 4 rfl rfl rfl (by decide +kernel) (.on rfl rfl Qt.move) ?_
     refine AWA.take 5 rfl rfl rfl (by decide +kernel) (.on rfl rfl (Qt.extract rfl (of_decide_eq_true rfl))) ?_
     refine AWA.take 6 rfl rfl rfl (by decide +kernel) (.on rfl rfl (Qt.extract rfl (of_decide_eq_true rfl))) ?_
     refine na ?_
     refine AWA.one 7 [4, 5, 6] [] (by decide +kernel) rfl rfl rfl (by decide +kernel) (by decide +kernel) (by decide +kernel) sA ?_
     refine na ?_
     refine ae rfl Qt.move ?_
     refine ae rfl (Qt.extract rfl (of_decide_eq_true rfl)) ?_
     refine ae rfl (Qt.extract rfl (of_decide_eq_true rfl)) ?_
     refine na ?_
     exact AWA.use (by decide +kernel) (by decide +kernel) Weak.refl K3_1
    ·refine AWA.arm 7 [0] [] rfl rfl rfl (by decide +kernel) (by decide +kernel) (by decide +kernel) sA ?_
     refine na ?_
     refine ae rfl (Qt.loadG rfl rfl rfl ag31 sz31 (by decide)) ?_
     refine na ?_
     exact AWA.use (by decide +kernel) (by decide +kernel) Weak.refl K3_0
   ·refine AWA.arm 7 [0, 1] [] rfl rfl rfl (by decide +kernel) (by decide +kernel) (by decide +kernel) sA ?_
    refine na ?_
    refine ae rfl (Qt.loadG rfl rfl rfl ag31 sz31 (by decide)) ?_
    refine ae rfl (Qt.loadG rfl rfl rfl ag31 sz31 (by decide)) ?_
    refine na ?_
    refine AWA.one 2 [0] [1] (by decide +kernel) rfl rfl rfl (by decide +kernel) (by decide +kernel) (by decide +kernel) (Stp.callR rfl (by decide) Tryz.call40 rfl rfl (TickEffectsI_con u hw) (nodup_of rfl) rfl rfl) ?_
    refine na ?_
    refine ae rfl (Qt.loadG rfl rfl rfl ag31 sz31 (by decide)) ?_
    refine na ?_
    exact AWA.use (by decide +kernel) (by decide +kernel) (Weak.sim (by repeat (first | exact trivial | refine ⟨rfl, ?_⟩ | refine ⟨⟨_, rfl, T.sim_refl _⟩, ?_⟩ | refine ⟨⟨rfl, rfl⟩, ?_⟩)) rfl rfl) K3_0
  ·refine AWA.one 3 [] [2, 0, 1] (by decide +kernel) rfl rfl rfl (by decide +kernel) (by decide +kernel) (by decide +kernel) (Stp.callR rfl (by decide) Tryz.call32 rfl rfl (ApplyAllT_con u (tickEffU u) hw hS (tickEff_k u)) (nodup_of rfl) rfl rfl) ?_
   refine na ?_
   refine AWA.take 4 rfl rfl rfl (by decide +kernel) (.on rfl rfl Qt.move) ?_
   refine AWA.take 5 rfl rfl rfl (by decide +kernel) (.on rfl rfl (Qt.extract rfl (of_decide_eq_true rfl))) ?_
   refine AWA.take 6 rfl rfl rfl (by decide +kernel) (.on rfl rfl (Qt.extract rfl (of_decide_eq_true rfl))) ?_
   refine na ?_
   refine na ?_
   exact AWA.use (by decide +kernel) (by decide +kernel) (Weak.sim (by repeat (first | exact trivial | refine ⟨rfl, ?_⟩ | refine ⟨⟨_, rfl, T.sim_refl _⟩, ?_⟩ | refine ⟨⟨rfl, rfl⟩, ?_⟩)) rfl rfl) K3_1
 ·refine AWA.one 8 [6] [7, 5, 4, 3, 2, 1, 0] (by decide +kernel) rfl rfl rfl (by decide +kernel) (by decide +kernel) (by decide +kernel) (by first | exact Stp.storeA rfl rfl rfl rfl (by decide) rfl | exact Stp.store rfl rfl (by simp) rfl rfl rfl (by decide) rfl) ?_
  refine na ?_
  refine ae rfl (Qt.extract rfl (of_decide_eq_true rfl)) ?_
  refine na ?_
  refine AWA.take 9 rfl rfl rfl (by decide +kernel) (.on rfl rfl Qt.assign) ?_
  refine nz ?_
  refine sr ?_
  refine qG ag31 sz31 ?_
  refine ss ?_
  refine nl ?_
  refine AW.ret (endQ_ret (.cons (.cellG 2 31 rfl rfl rfl ag31 sz31 (by decide)) .nil) ?_)
  rw [show tickU u = foldU u (tickEffU u) from by rw [tick_fold hok]; exact if_pos hok]
  refine ⟨fun i => if i = 0 then 13 else if i = 1 then 1013 else if i = 2 then 2013 else if i = 3 then 3013 else if i = 4 then 4013 else if i = 5 then 5013 else 6013, rfl, nodup_of rfl, ?_⟩
  intro r hr
  simp only [List.mem_cons, List.not_mem_nil, or_false] at hr
  rcases hr with rfl | rfl | rfl | rfl | rfl | rfl | rfl <;> exact ⟨by simp, rootL_mem rfl⟩
theorem l9Tick_con (u : DUnix) (hS : Shp u) : Con Tryz.prog 95 [.g [.v (iv u.Next), .v (iv u.Tick), .h base [], .h (base + 1) [], .h (base + 2) [], .h (base + 3) [], .h (base + 4) [], .h (base + 5) [], .h (base + 6) []]] [.rt base .row (tr u.Progs), .rt (base + 1) .row (tr u.Procs), .rt (base + 2) .row (tr u.Opens), .rt (base + 3) .row (tr u.Pipes), .rt (base + 4) .row (tr u.Files), .rt (base + 5) .row (tr u.Ready), .rt (base + 6) .row (tr u.Out)] (RetW (.g [.v (iv (tickW u).1.Next), .v (iv (tickW u).1.Tick), .h 0 [], .h 1 [], .h 2 [], .h 3 [], .h 4 [], .h 5 [], .h 6 []]) [(0, .row, tr (tickW u).1.Progs), (1, .row, tr (tickW u).1.Procs), (2, .row, tr (tickW u).1.Opens), (3, .row, tr (tickW u).1.Pipes), (4, .row, tr (tickW u).1.Files), (5, .row, tr (tickW u).1.Ready), (6, .row, tr (tickW u).1.Out)] [(base, .j), ((base + 1), .j), ((base + 2), .j), ((base + 3), .j), ((base + 4), .j), ((base + 5), .j), ((base + 6), .j)]) := by
 refine ob Tryz.func95 Tryz.ntmps95 ?_
 refine sr ?_
 refine bx ?_
 refine nm ?_
 refine sp sA ?_
 refine ns ?_
 refine qG ag31 sz31 ?_
 refine nm ?_
 refine sp (Stp.callH rfl (by decide) Tryz.call91 rfl (l8Tick_con u hS) rfl rfl rfl (nodup_of rfl) rfl rfl) ?_
 refine nm ?_
 refine qq (Qt.fieldG 0 rfl Tryz.underlying112 rfl rfl ag31 sz31) ?_
 refine ss ?_
 refine nl ?_
 refine AW.ret (endQ_ret (.cons (.cellG 2 31 rfl rfl rfl ag31 sz31 (by decide)) .nil) ?_)
 refine ⟨fun n => if n = 0 then 4 else if n = 1 then 1004 else if n = 2 then 2004 else if n = 3 then 3004 else if n = 4 then 4004 else if n = 5 then 5004 else if n = 6 then 6004 else n, rfl, (fun n hn => by simp only [base] at hn; dsimp only; repeat (rw [if_neg (by omega)])), nodup_of rfl, (fun r hr => by simp only [List.mem_cons, List.not_mem_nil, or_false] at hr; rcases hr with rfl | rfl | rfl | rfl | rfl | rfl | rfl <;> exact ⟨by simp, rootL_mem rfl, of_decide_eq_true rfl⟩), ?_⟩
 intro p hp
 simp only [List.mem_cons, List.not_mem_nil, or_false] at hp
 rcases hp with rfl | rfl | rfl | rfl | rfl | rfl | rfl <;> exact rootL_mem rfl
theorem TickS_con (u : DUnix) (hw : Mk.wt u ≤ 1048576) : Con Tryz.prog 42 [.g [.v (iv u.Next), .v (iv u.Tick), .h base [], .h (base + 1) [], .h (base + 2) [], .h (base + 3) [], .h (base + 4) [], .h (base + 5) [], .h (base + 6) []]] [.rt base .ro (tr u.Progs), .rt (base + 1) .ro (tr u.Procs), .rt (base + 2) .ro (tr u.Opens), .rt (base + 3) .ro (tr u.Pipes), .rt (base + 4) .ro (tr u.Files), .rt (base + 5) .ro (tr u.Ready), .rt (base + 6) .ro (tr u.Out)] (Ret (.g [.v (iv (tickU u).Next), .v (iv (tickU u).Tick), .h 0 [], .h 1 [], .h 2 [], .h 3 [], .h 4 [], .h 5 [], .h 6 []]) [(0, .row, tr (tickU u).Progs), (1, .row, tr (tickU u).Procs), (2, .row, tr (tickU u).Opens), (3, .row, tr (tickU u).Pipes), (4, .row, tr (tickU u).Files), (5, .row, tr (tickU u).Ready), (6, .row, tr (tickU u).Out)]) := by
 refine ob Tryz.func42 Tryz.ntmps42 ?_
 refine sr ?_
 refine bx ?_
 refine nm ?_
 refine sp sA ?_
 refine nl ?_
 refine sr2 ?_
 refine qG ag31 sz31 ?_
 refine nm ?_
 refine cv Tryz.call60 rfl rfl (UnixOkS_con u (unixB_of hw)) ?_
 refine nm ?_
 refine qq (Qt.notB rfl) ?_
 refine nc (fun c1 => ?_) fun c1 => ?_
 ·have k1 := c1
  try simp only [cnd] at c1
  have hno : ¬ unixOk u = true := by simpa using k1
  refine sr ?_
  refine qq (Qt.build rfl) ?_
  refine ss ?_
  refine nl ?_
  refine AW.weak (Weak.hoist 2 2 901 rfl (by decide) rfl rfl rfl) ?_
  refine AW.weak (Weak.hoist 2 3 902 rfl (by decide) rfl rfl rfl) ?_
  refine AW.weak (Weak.hoist 2 4 903 rfl (by decide) rfl rfl rfl) ?_
  refine AW.weak (Weak.hoist 2 5 904 rfl (by decide) rfl rfl rfl) ?_
  refine AW.weak (Weak.hoist 2 6 905 rfl (by decide) rfl rfl rfl) ?_
  refine AW.weak (Weak.hoist 2 7 906 rfl (by decide) rfl rfl rfl) ?_
  refine AW.weak (Weak.hoist 2 8 907 rfl (by decide) rfl rfl rfl) ?_
  refine AW.weak (L' := [.sl 2 (.p 2 [] 9 0 0), .rt 2 .box (T.s 9 1 fun _ c => [T.v (iv zeroU.Next), T.v (iv zeroU.Tick), T.j, T.j, T.j, T.j, T.j, T.j, T.j].getD c T.j), .al 2 2 (.h 901 []), .al 2 3 (.h 902 []), .al 2 4 (.h 903 []), .al 2 5 (.h 904 []), .al 2 6 (.h 905 []), .al 2 7 (.h 906 []), .al 2 8 (.h 907 []), .rt 901 .row (tr zeroU.Progs), .rt 902 .row (tr zeroU.Procs), .rt 903 .row (tr zeroU.Opens), .rt 904 .row (tr zeroU.Pipes), .rt 905 .row (tr zeroU.Files), .rt 906 .row (tr zeroU.Ready), .rt 907 .row (tr zeroU.Out)]) (Weak.sim ⟨rfl, ⟨_, rfl, (sc_sim (n := 9) (fun c hc => match c, hc with | 0, _ => T.sim_refl _ | 1, _ => T.sim_refl _ | 2, _ => T.sim_refl _ | 3, _ => T.sim_refl _ | 4, _ => T.sim_refl _ | 5, _ => T.sim_refl _ | 6, _ => T.sim_refl _ | 7, _ => T.sim_refl _ | 8, _ => T.sim_refl _ | c + 9, hc => absurd hc (by omega)))⟩, ⟨rfl, rfl⟩, ⟨rfl, rfl⟩, ⟨rfl, rfl⟩, ⟨rfl, rfl⟩, ⟨rfl, rfl⟩, ⟨rfl, rfl⟩, ⟨rfl, rfl⟩, ⟨_, rfl, sim_nil⟩, ⟨_, rfl, sim_nil⟩, ⟨_, rfl, sim_nil⟩, ⟨_, rfl, sim_nil⟩, ⟨_, rfl, sim_nil⟩, ⟨_, rfl, sim_nil⟩, ⟨_, rfl, sim_nil⟩, trivial⟩ rfl rfl) ?_
  refine AW.ret (endQ_ret (.cons (.cellG 2 31 rfl rfl rfl ag31 sz31 (by decide)) .nil) ?_)
  rw [show tickU u = zeroU from if_neg hno]
  refine ⟨fun i => if i = 0 then 901 else if i = 1 then 902 else if i = 2 then 903 else if i = 3 then 904 else if i = 4 then 905 else if i = 5 then 906 else 907, rfl, nodup_of rfl, ?_⟩
  intro r hr
  simp only [List.mem_cons, List.not_mem_nil, or_false] at hr
  rcases hr with rfl | rfl | rfl | rfl | rfl | rfl | rfl <;> exact ⟨by simp, rootL_mem rfl⟩
 have k1 := c1
 try simp only [cnd] at c1
 have hok : unixOk u = true := by simpa using k1
 have hS := shp_of hok
 have hwt := tickW_wt hok
 refine jd (sr ?_)
 refine qG ag31 sz31 ?_
 refine nm ?_
 refine sp (Stp.callR rfl (by decide) Tryz.call68 rfl rfl (l6Copy_con u hw) (nodup_of rfl) rfl rfl) ?_
 refine nm ?_
 refine sp (Stp.callH rfl (by decide) Tryz.call95 rfl (l9Tick_con u hS) rfl rfl rfl (nodup_of rfl) rfl rfl) ?_
 refine nm ?_
 refine sp (Stp.callR rfl (by decide) Tryz.call68 rfl rfl (l6Copy_con (tickW u).1 hwt) (nodup_of rfl) rfl rfl) ?_
 refine nm ?_
 refine ss ?_
 refine nl ?_
 refine AW.ret (endQ_ret (.cons (.cellG 2 31 rfl rfl rfl ag31 sz31 (by decide)) .nil) ?_)
 rw [show tickU u = (tickW u).1 from if_pos hok]
 refine ⟨fun i => if i = 0 then 10 else if i = 1 then 1010 else if i = 2 then 2010 else if i = 3 then 3010 else if i = 4 then 4010 else if i = 5 then 5010 else 6010, rfl, nodup_of rfl, ?_⟩
 intro r hr
 simp only [List.mem_cons, List.not_mem_nil, or_false] at hr
 rcases hr with rfl | rfl | rfl | rfl | rfl | rfl | rfl <;> exact ⟨by simp, rootL_mem rfl⟩
end Go.Proofs.YtfbefcmeghpalaaGreat.VM
