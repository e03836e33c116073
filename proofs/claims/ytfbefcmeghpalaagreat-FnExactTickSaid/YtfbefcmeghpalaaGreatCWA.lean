/- Contracts of functions of the program. No conditions beyond those that each states. -/
import Derived.Test.YtfbefcmeghpalaaGreatCW9
import Derived.Test.YtfbefcmeghpalaaGreatCW5
set_option linter.all false
set_option maxHeartbeats 8000000
set_option maxRecDepth 10000
namespace Go.Proofs.YtfbefcmeghpalaaGreat.VM
open Go Go.RowKit Go.Proofs
theorem l6CopyProgs_con (l : List (List DIns)) (hw : Mk.wt l ≤ 1048576) : Con Tryz.prog 151 [.h base []] [.rt base .ro (tr l)] (Ret (.h 0 []) [(0, .row, tr l)]) := by
 refine ob Tryz.func151 Tryz.ntmps151 ?_
 refine AW.len (base) [] rfl (by simp [Okp]) rfl (fun hl => ?_)
 have hbd := rowsG_bd hw
 refine sr ?_
 refine qs' ?_
 refine sp sS ?_
 refine nm ?_
 refine qn ?_
 refine sr2 ?_
 refine qn ?_
 refine AW.block ?_
 refine AW.renR 5 20 rfl (by decide) (by decide) ?_
 refine AW.loopW (fun i : KInv l.length => [.sl 4 (.v (iv i.k)), .sl 0 (.h base []), .sl 3 (.h 20 []), .rt base .ro (tr l), .rt 20 .row (tr (l.take i.k))]) (fun i => l.length - i.k) ⟨0, Nat.zero_le _⟩ (Weak.sim ⟨rfl, rfl, rfl, Rf rfl, ⟨_, rfl, sim_nil⟩, trivial⟩ rfl rfl) ?_
 intro i
 have hle := i.le
 refine sr2 ?_
 refine mn ?_
 refine qm ?_
 refine qh sl24 ?_
 refine qb ?_
 refine nc (fun c1 => ?_) fun c1 => ?_
 ·try simp only [cnd] at c1
  have hik := hbd.2 i.k (by omega)
  have htl : (l.take i.k).length ≤ 1048576 := by rw [List.length_take]; omega
  refine jd (AW.seq (AW.block (AW.region ?_)))
  refine mn ?_
  refine sp sS ?_
  refine nm ?_
  refine qm ?_
  refine qm ?_
  refine qq (ix sl24 sz65) ?_
  refine nm ?_
  refine ql ag65 ?_
  refine sp (by first | exact Stp.appendC rfl (by decide) (by decide) rfl rfl (by omega) | exact Stp.appendM rfl (by decide) (by decide) rfl rfl rfl (by omega)) ?_
  refine nm ?_
  refine AWL.rep 18 (tr (l.getD i.k En.dflt)) rfl (app_nil (α := DIns)) ?_
  refine nm ?_
  refine sp sS ?_
  refine nm ?_
  refine AWL.rep 19 (tr [(l.getD i.k En.dflt)]) rfl (row1_sim (α := List DIns) (fun c hc => match c, hc with | 0, _ => T.sim_refl _ | c + 1, hc => absurd hc (by simp only [En.n]; omega))) ?_
  refine nm ?_
  refine sp (Stp.appendM rfl (by decide) (by decide) rfl rfl rfl (by simp only [List.length_cons, List.length_nil]; omega)) ?_
  refine nm ?_
  refine AWL.rep 20 (tr (l.take (i.k + 1))) rfl (by rw [take_snocG En.dflt (show i.k < l.length by omega)]; exact app_sim (l := l.take i.k) (l' := [l.getD i.k En.dflt]) rfl (fun _ _ _ _ => rfl) (fun _ _ _ _ => rfl)) ?_
  refine nm ?_
  refine qn ?_
  refine AW.region ?_
  refine qm ?_
  refine ba ?_
  refine nm ?_
  refine qn ?_
  refine ⟨⟨i.k + 1, by omega⟩, Weak.sim ⟨st1, rfl, rfl, Rf rfl, Rf rfl, trivial⟩ rfl rfl, ?_⟩
  show l.length - (i.k + 1) < l.length - i.k
  omega
 try simp only [cnd] at c1
 refine AW.exit ?_
 dsimp only [thenQ, blockQ, reduceIte]
 refine sr ?_
 refine qm ?_
 refine qn ?_
 refine AW.rep 20 (tr l) rfl (by rw [List.take_of_length_le (by omega)]; exact T.sim_refl _) ?_
 refine rt1 2 ?_
 refine ⟨fun _ => 20, rfl, nodup_of rfl, ?_⟩
 intro r hr
 cases List.mem_singleton.1 hr
 exact ⟨by simp, rootL_mem rfl⟩
theorem l6CopyProc_con (p : DProc) (hw : Mk.wt p ≤ 1048576) : Con Tryz.prog 152 [.g [.v (iv p.Pid), .v (iv p.Parent), .v (iv p.State), .v (iv p.Prog), .v (iv p.Cpu.Pc), .h base [], .h (base + 1) [], .h (base + 2) [], .v (iv p.Until), .v (iv p.Code)]] [.rt base .ro (tr p.Cpu.Regs), .rt (base + 1) .ro (tr p.Mem), .rt (base + 2) .ro (tr p.Fds)] (Ret (.g [.v (iv p.Pid), .v (iv p.Parent), .v (iv p.State), .v (iv p.Prog), .v (iv p.Cpu.Pc), .h 0 [], .h 1 [], .h 2 [], .v (iv p.Until), .v (iv p.Code)]) [(0, .row, tr p.Cpu.Regs), (1, .row, tr p.Mem), (2, .row, tr p.Fds)]) := by
 refine ob Tryz.func152 Tryz.ntmps152 ?_
 have hwp : Mk.wt p.Cpu.Regs + Mk.wt p.Mem + Mk.wt p.Fds ≤ 1048576 := hw
 have hw1 := wt_ints p.Cpu.Regs
 have hw2 := wt_ints p.Mem
 have hw3 := wt_ints p.Fds
 refine sr ?_
 refine bx ?_
 refine nm ?_
 refine sp sA ?_
 refine ns ?_
 refine sp sS ?_
 refine nm ?_
 refine qq (fA fl72_4) ?_
 refine qq (fA fl70_1) ?_
 refine ql ag29 ?_
 refine nm ?_
 refine sp (by first | exact Stp.appendC rfl (by decide) (by decide) rfl rfl (by omega) | exact Stp.appendM rfl (by decide) (by decide) rfl rfl rfl (by omega)) ?_
 refine nm ?_
 refine AWL.rep 7 (tr p.Cpu.Regs) rfl (app_nil (α := Int)) ?_
 refine nm ?_
 refine qq (fA fl72_4) ?_
 refine qq (fA fl70_1) ?_
 refine ss ?_
 refine ns ?_
 refine sp sS ?_
 refine nm ?_
 refine qq (fA fl72_5) ?_
 refine ql ag29 ?_
 refine sp (by first | exact Stp.appendC rfl (by decide) (by decide) rfl rfl (by omega) | exact Stp.appendM rfl (by decide) (by decide) rfl rfl rfl (by omega)) ?_
 refine nm ?_
 refine AWL.rep 13 (tr p.Mem) rfl (app_nil (α := Int)) ?_
 refine nm ?_
 refine qq (fA fl72_5) ?_
 refine ss ?_
 refine ns ?_
 refine sp sS ?_
 refine nm ?_
 refine qq (fA fl72_6) ?_
 refine ql ag29 ?_
 refine sp (by first | exact Stp.appendC rfl (by decide) (by decide) rfl rfl (by omega) | exact Stp.appendM rfl (by decide) (by decide) rfl rfl rfl (by omega)) ?_
 refine nm ?_
 refine AWL.rep 18 (tr p.Fds) rfl (app_nil (α := Int)) ?_
 refine nm ?_
 refine qq (fA fl72_6) ?_
 refine ss ?_
 refine ns ?_
 refine qG ag72 sz72 ?_
 refine nm ?_
 refine ss ?_
 refine nl ?_
 refine AW.ret (endQ_ret (.cons (.cellG 2 72 rfl rfl rfl ag72 sz72 (by decide)) .nil) ?_)
 refine ⟨fun i => if i = 0 then 7 else if i = 1 then 13 else 18, rfl, nodup_of rfl, ?_⟩
 intro r hr
 simp only [List.mem_cons, List.not_mem_nil, or_false] at hr
 rcases hr with rfl | rfl | rfl <;> exact ⟨by simp, rootL_mem rfl⟩
theorem l6Copy_con (u : DUnix) (hw : Mk.wt u ≤ 1048576) : Con Tryz.prog 68 [.g [.v (iv u.Next), .v (iv u.Tick), .h base [], .h (base + 1) [], .h (base + 2) [], .h (base + 3) [], .h (base + 4) [], .h (base + 5) [], .h (base + 6) []]] [.rt base .ro (tr u.Progs), .rt (base + 1) .ro (tr u.Procs), .rt (base + 2) .ro (tr u.Opens), .rt (base + 3) .ro (tr u.Pipes), .rt (base + 4) .ro (tr u.Files), .rt (base + 5) .ro (tr u.Ready), .rt (base + 6) .ro (tr u.Out)] (Ret (.g [.v (iv u.Next), .v (iv u.Tick), .h 0 [], .h 1 [], .h 2 [], .h 3 [], .h 4 [], .h 5 [], .h 6 []]) [(0, .row, tr u.Progs), (1, .row, tr u.Procs), (2, .row, tr u.Opens), (3, .row, tr u.Pipes), (4, .row, tr u.Files), (5, .row, tr u.Ready), (6, .row, tr u.Out)]) := by
 refine ob Tryz.func68 Tryz.ntmps68 ?_
 refine AW.len (base + 1) [] rfl (by simp [Okp]) rfl (fun hl1 => ?_)
 refine AW.len (base + 3) [] rfl (by simp [Okp]) rfl (fun hl3 => ?_)
 refine AW.len (base + 4) [] rfl (by simp [Okp]) rfl (fun hl4 => ?_)
 have hwu : Mk.wt u.Progs + Mk.wt u.Procs + Mk.wt u.Opens + Mk.wt u.Pipes + Mk.wt u.Files + Mk.wt u.Ready + Mk.wt u.Out ≤ 1048576 := hw
 have hw1 := wt_len u.Procs
 have hw2 := wt_len u.Opens
 have hw3 := wt_len u.Pipes
 have hw4 := wt_len u.Ready
 have hw5 := wt_len u.Out
 have hw6 := wt_len u.Files
 refine sr ?_
 refine bx ?_
 refine nm ?_
 refine sp sA ?_
 refine ns ?_
 refine qG ag31 sz31 ?_
 refine nm ?_
 refine sp sA ?_
 refine nm ?_
 refine ss ?_
 refine ns ?_
 refine qq (fA fl31_2) ?_
 refine nm ?_
 refine ql ag24 ?_
 refine sp (Stp.callR rfl (by decide) Tryz.call151 rfl rfl (l6CopyProgs_con _ (by omega)) (nodup_of rfl) rfl rfl) ?_
 refine nm ?_
 refine qq (fA fl31_2) ?_
 refine ss ?_
 refine ns ?_
 refine sp sS ?_
 refine nm ?_
 refine qq (fA fl31_3) ?_
 refine ss ?_
 refine nl ?_
 refine sr2 ?_
 refine qn ?_
 refine AW.block ?_
 refine AW.renR 12 30 rfl (by decide) (by decide) ?_
 refine AW.weak (L' := (.sl 4 (.v (iv (0 : Nat))) :: .sl 2 (.p 2 [] 9 0 0) :: .sl 3 (.p 3 [] 9 0 0) :: .rt 1 .box (T.s 9 1 fun k c => ([(T.v (iv u.Next), none), (T.v (iv u.Tick), none), (T.j, none), (T.j, none), (T.j, none), (T.j, none), (T.j, none), (T.j, none), (T.j, none)].getD (k * 9 + c) (T.j, none)).fst) :: .al 1 2 (.h base []) :: .al 1 3 (.h (base + 1) []) :: .al 1 4 (.h (base + 2) []) :: .al 1 5 (.h (base + 3) []) :: .al 1 6 (.h (base + 4) []) :: .al 1 7 (.h (base + 5) []) :: .al 1 8 (.h (base + 6) []) :: .rt base .ro (tr u.Progs) :: .rt (base + 1) .ro (tr u.Procs) :: .rt (base + 2) .ro (tr u.Opens) :: .rt (base + 3) .ro (tr u.Pipes) :: .rt (base + 4) .ro (tr u.Files) :: .rt (base + 5) .ro (tr u.Ready) :: .rt (base + 6) .ro (tr u.Out) :: .sl 1 (.p 1 [] 9 0 0) :: .rt 2 .box (T.s 9 1 fun _ c => [T.v (iv 0), T.v (iv 0), T.s 1 0 fun _ _ => T.j, T.s 10 0 fun _ _ => T.j, T.s 5 0 fun _ _ => T.j, T.s 2 0 fun _ _ => T.j, T.s 2 0 fun _ _ => T.j, T.s 1 0 fun _ _ => T.j, T.s 1 0 fun _ _ => T.j].getD c T.j) :: .rt 3 .box (T.s 9 1 fun _ c => [T.v (iv u.Next), T.v (iv u.Tick), T.j, T.j, T.j, T.j, T.j, T.j, T.j].getD c T.j) :: .al 3 2 (.h 10 []) :: .al 3 3 (.h 30 []) :: .al 3 4 (.h (base + 2) []) :: .al 3 5 (.h (base + 3) []) :: .al 3 6 (.h (base + 4) []) :: .al 3 7 (.h (base + 5) []) :: .al 3 8 (.h (base + 6) []) :: .rt 10 .row (tr u.Progs) :: .rt 30 .row (tr (u.Procs.take (0 : Nat))) :: [])) (Weak.sim ⟨rfl, rfl, rfl, Rf rfl, ⟨rfl, rfl⟩, ⟨rfl, rfl⟩, ⟨rfl, rfl⟩, ⟨rfl, rfl⟩, ⟨rfl, rfl⟩, ⟨rfl, rfl⟩, ⟨rfl, rfl⟩, Rf rfl, Rf rfl, Rf rfl, Rf rfl, Rf rfl, Rf rfl, Rf rfl, rfl, ⟨_, rfl, (sc_sim (n := 9) (fun c hc => match c, hc with | 0, _ => T.sim_refl _ | 1, _ => T.sim_refl _ | 2, _ => T.sim_refl _ | 3, _ => T.sim_refl _ | 4, _ => T.sim_refl _ | 5, _ => T.sim_refl _ | 6, _ => T.sim_refl _ | 7, _ => T.sim_refl _ | 8, _ => T.sim_refl _ | c + 9, hc => absurd hc (by omega)))⟩, ⟨_, rfl, (sc_sim (n := 9) (fun c hc => match c, hc with | 0, _ => T.sim_refl _ | 1, _ => T.sim_refl _ | 2, _ => T.sim_refl _ | 3, _ => T.sim_refl _ | 4, _ => T.sim_refl _ | 5, _ => T.sim_refl _ | 6, _ => T.sim_refl _ | 7, _ => T.sim_refl _ | 8, _ => T.sim_refl _ | c + 9, hc => absurd hc (by omega)))⟩, ⟨rfl, rfl⟩, ⟨rfl, rfl⟩, ⟨rfl, rfl⟩, ⟨rfl, rfl⟩, ⟨rfl, rfl⟩, ⟨rfl, rfl⟩, ⟨rfl, rfl⟩, Rf rfl, ⟨_, rfl, sim_nil⟩, trivial⟩ rfl rfl) ?_
 refine AW.loop (fun i : KInv u.Procs.length => (.sl 4 (.v (iv i.k)) :: .sl 2 (.p 2 [] 9 0 0) :: .sl 3 (.p 3 [] 9 0 0) :: .rt 1 .box (T.s 9 1 fun k c => ([(T.v (iv u.Next), none), (T.v (iv u.Tick), none), (T.j, none), (T.j, none), (T.j, none), (T.j, none), (T.j, none), (T.j, none), (T.j, none)].getD (k * 9 + c) (T.j, none)).fst) :: .al 1 2 (.h base []) :: .al 1 3 (.h (base + 1) []) :: .al 1 4 (.h (base + 2) []) :: .al 1 5 (.h (base + 3) []) :: .al 1 6 (.h (base + 4) []) :: .al 1 7 (.h (base + 5) []) :: .al 1 8 (.h (base + 6) []) :: .rt base .ro (tr u.Progs) :: .rt (base + 1) .ro (tr u.Procs) :: .rt (base + 2) .ro (tr u.Opens) :: .rt (base + 3) .ro (tr u.Pipes) :: .rt (base + 4) .ro (tr u.Files) :: .rt (base + 5) .ro (tr u.Ready) :: .rt (base + 6) .ro (tr u.Out) :: .sl 1 (.p 1 [] 9 0 0) :: .rt 2 .box (T.s 9 1 fun _ c => [T.v (iv 0), T.v (iv 0), T.s 1 0 fun _ _ => T.j, T.s 10 0 fun _ _ => T.j, T.s 5 0 fun _ _ => T.j, T.s 2 0 fun _ _ => T.j, T.s 2 0 fun _ _ => T.j, T.s 1 0 fun _ _ => T.j, T.s 1 0 fun _ _ => T.j].getD c T.j) :: .rt 3 .box (T.s 9 1 fun _ c => [T.v (iv u.Next), T.v (iv u.Tick), T.j, T.j, T.j, T.j, T.j, T.j, T.j].getD c T.j) :: .al 3 2 (.h 10 []) :: .al 3 3 (.h 30 []) :: .al 3 4 (.h (base + 2) []) :: .al 3 5 (.h (base + 3) []) :: .al 3 6 (.h (base + 4) []) :: .al 3 7 (.h (base + 5) []) :: .al 3 8 (.h (base + 6) []) :: .rt 10 .row (tr u.Progs) :: .rt 30 .row (tr (u.Procs.take i.k)) :: [])) (fun i => u.Procs.length - i.k) ⟨0, Nat.zero_le _⟩ ?_
 intro i
 have hle := i.le
 refine sr2 ?_
 refine mn ?_
 refine qq (fA fl31_3) ?_
 refine ql ag25 ?_
 refine qh sl25 ?_
 refine nm ?_
 refine qb ?_
 refine nc (fun c1 => ?_) fun c1 => ?_
 ·try simp only [cnd] at c1
  have hik := wt_ge (show i.k < u.Procs.length by omega)
  have htl : (u.Procs.take i.k).length ≤ 1048576 := by rw [List.length_take]; omega
  refine jd (AW.seq (AW.block ?_))
  refine AW.draw [0, 1, 2, 3, 4, 5, 6, 10] rfl (by decide +kernel) ?_
  refine tk 0 rfl (fA fl31_3) ?_
  refine tk 1 rfl (Qt.load1 rfl rfl rfl ag25) ?_
  refine na ?_
  refine tk 2 rfl (fA fl31_3) ?_
  refine tk 3 rfl (Qt.load1 rfl rfl rfl ag25) ?_
  refine tk 4 rfl Qt.move ?_
  refine na ?_
  refine tk 5 rfl (ix sl25 sz72) ?_
  refine tk 6 rfl (Qt.loadG rfl rfl rfl ag72 sz72 (by decide)) ?_
  refine a1 7 [0, 1] [6, 5, 4, 3, 2] rfl rfl (Stp.callR rfl (by decide) Tryz.call152 rfl rfl (l6CopyProc_con (u.Procs.getD i.k En.dflt) (by omega)) (nodup_of rfl) rfl rfl) ?_
  refine na ?_
  refine na ?_
  refine ae rfl (fA fl31_3) ?_
  refine na ?_
  refine ae rfl (Qt.load1 rfl rfl rfl ag25) ?_
  refine na ?_
  refine a1 8 [0, 1] [7, 6, 5, 4, 3, 2] rfl rfl sS ?_
  refine na ?_
  refine na ?_
  refine ae rfl (fA fl31_3) ?_
  refine na ?_
  refine ae rfl (Qt.load1 rfl rfl rfl ag25) ?_
  refine na ?_
  refine AWA.rep 29 (tr [(u.Procs.getD i.k En.dflt)]) rfl (row1_sim (α := DProc) (fun c hc => match c, hc with | 0, _ => T.sim_refl _ | 1, _ => T.sim_refl _ | 2, _ => T.sim_refl _ | 3, _ => T.sim_refl _ | 4, _ => T.sim_refl _ | 5, _ => T.sim_refl _ | 6, _ => T.sim_refl _ | 7, _ => T.sim_refl _ | 8, _ => T.sim_refl _ | 9, _ => T.sim_refl _ | c + 10, hc => absurd hc (by simp only [En.n]; omega))) ?_
  refine na ?_
  refine a1 9 [] [8, 7, 1, 6, 0, 5, 4, 3, 2] rfl rfl (Stp.appendM rfl (by decide) (by decide) rfl rfl rfl (by simp only [List.length_cons, List.length_nil]; omega)) ?_
  refine na ?_
  refine na ?_
  refine AWA.rep 30 (tr (u.Procs.take (i.k + 1))) rfl (by rw [take_snocG En.dflt (show i.k < u.Procs.length by omega)]; exact app_sim (l := u.Procs.take i.k) (l' := [u.Procs.getD i.k En.dflt]) rfl (fun _ _ _ _ => rfl) (fun _ _ _ _ => rfl)) ?_
  refine na ?_
  refine tk 10 rfl (fA fl31_3) ?_
  refine a1 11 [] [10, 9, 8, 7, 6, 5, 4, 3, 2, 1, 0] rfl rfl (by first | exact Stp.storeA rfl rfl rfl rfl (by decide) rfl | exact Stp.store rfl rfl (by simp) rfl rfl rfl (by decide) rfl) ?_
  refine na ?_
  refine na ?_
  refine nz ?_
  refine AW.region ?_
  refine qm ?_
  refine ba ?_
  refine qn ?_
  refine ⟨⟨i.k + 1, by omega⟩, Weak.sim ⟨st1, rfl, rfl, Rf rfl, ⟨rfl, rfl⟩, ⟨rfl, rfl⟩, ⟨rfl, rfl⟩, ⟨rfl, rfl⟩, ⟨rfl, rfl⟩, ⟨rfl, rfl⟩, ⟨rfl, rfl⟩, Rf rfl, Rf rfl, Rf rfl, Rf rfl, Rf rfl, Rf rfl, Rf rfl, rfl, Rf rfl, ⟨_, rfl, (sc_sim (n := 9) (fun c hc => match c, hc with | 0, _ => T.sim_refl _ | 1, _ => T.sim_refl _ | 2, _ => T.sim_refl _ | 3, _ => T.sim_refl _ | 4, _ => T.sim_refl _ | 5, _ => T.sim_refl _ | 6, _ => T.sim_refl _ | 7, _ => T.sim_refl _ | 8, _ => T.sim_refl _ | c + 9, hc => absurd hc (by omega)))⟩, ⟨rfl, rfl⟩, ⟨rfl, rfl⟩, ⟨rfl, rfl⟩, ⟨rfl, rfl⟩, ⟨rfl, rfl⟩, ⟨rfl, rfl⟩, ⟨rfl, rfl⟩, Rf rfl, Rf rfl, trivial⟩ rfl rfl, ?_⟩
  show u.Procs.length - (i.k + 1) < u.Procs.length - i.k
  omega
 try simp only [cnd] at c1
 refine AW.rep 30 (tr u.Procs) rfl (by rw [List.take_of_length_le (by omega)]; exact T.sim_refl _) ?_
 refine AW.exit ?_
 dsimp only [thenQ, blockQ, reduceIte]
 refine sr ?_
 refine sp sS ?_
 refine nm ?_
 refine qq (fA fl31_4) ?_
 refine ql ag26 ?_
 refine sp (by first | exact Stp.appendC rfl (by decide) (by decide) rfl rfl (by omega) | exact Stp.appendM rfl (by decide) (by decide) rfl rfl rfl (by omega)) ?_
 refine nm ?_
 refine AWL.rep 35 (tr u.Opens) rfl (app_nil (α := DOpen)) ?_
 refine nm ?_
 refine qq (fA fl31_4) ?_
 refine ss ?_
 refine ns ?_
 refine sp sS ?_
 refine nm ?_
 refine qq (fA fl31_5) ?_
 refine ss ?_
 refine nl ?_
 refine sr2 ?_
 refine qn ?_
 refine AW.block ?_
 refine AW.renR 37 64 rfl (by decide) (by decide) ?_
 refine AW.weak (L' := (.sl 5 (.v (iv (0 : Nat))) :: .sl 2 (.p 2 [] 9 0 0) :: .sl 3 (.p 3 [] 9 0 0) :: .rt 1 .box (T.s 9 1 fun k c => ([(T.v (iv u.Next), none), (T.v (iv u.Tick), none), (T.j, none), (T.j, none), (T.j, none), (T.j, none), (T.j, none), (T.j, none), (T.j, none)].getD (k * 9 + c) (T.j, none)).fst) :: .al 1 2 (.h base []) :: .al 1 3 (.h (base + 1) []) :: .al 1 4 (.h (base + 2) []) :: .al 1 5 (.h (base + 3) []) :: .al 1 6 (.h (base + 4) []) :: .al 1 7 (.h (base + 5) []) :: .al 1 8 (.h (base + 6) []) :: .rt base .ro (tr u.Progs) :: .rt (base + 1) .ro (tr u.Procs) :: .rt (base + 2) .ro (tr u.Opens) :: .rt (base + 3) .ro (tr u.Pipes) :: .rt (base + 4) .ro (tr u.Files) :: .rt (base + 5) .ro (tr u.Ready) :: .rt (base + 6) .ro (tr u.Out) :: .sl 1 (.p 1 [] 9 0 0) :: .rt 2 .box (T.s 9 1 fun _ c => [T.v (iv 0), T.v (iv 0), T.s 1 0 fun _ _ => T.j, T.s 10 0 fun _ _ => T.j, T.s 5 0 fun _ _ => T.j, T.s 2 0 fun _ _ => T.j, T.s 2 0 fun _ _ => T.j, T.s 1 0 fun _ _ => T.j, T.s 1 0 fun _ _ => T.j].getD c T.j) :: .rt 3 .box (T.s 9 1 fun _ c => [T.v (iv u.Next), T.v (iv u.Tick), T.j, T.j, T.j, T.j, T.j, T.j, T.j].getD c T.j) :: .al 3 2 (.h 10 []) :: .al 3 3 (.h 30 []) :: .al 3 4 (.h 35 []) :: .al 3 5 (.h 64 []) :: .al 3 6 (.h (base + 4) []) :: .al 3 7 (.h (base + 5) []) :: .al 3 8 (.h (base + 6) []) :: .rt 10 .row (tr u.Progs) :: .rt 30 .row (tr u.Procs) :: .rt 35 .row (tr u.Opens) :: .rt 64 .row (tr (u.Pipes.take (0 : Nat))) :: [])) (Weak.sim ⟨rfl, rfl, rfl, Rf rfl, ⟨rfl, rfl⟩, ⟨rfl, rfl⟩, ⟨rfl, rfl⟩, ⟨rfl, rfl⟩, ⟨rfl, rfl⟩, ⟨rfl, rfl⟩, ⟨rfl, rfl⟩, Rf rfl, Rf rfl, Rf rfl, Rf rfl, Rf rfl, Rf rfl, Rf rfl, rfl, ⟨_, rfl, (sc_sim (n := 9) (fun c hc => match c, hc with | 0, _ => T.sim_refl _ | 1, _ => T.sim_refl _ | 2, _ => T.sim_refl _ | 3, _ => T.sim_refl _ | 4, _ => T.sim_refl _ | 5, _ => T.sim_refl _ | 6, _ => T.sim_refl _ | 7, _ => T.sim_refl _ | 8, _ => T.sim_refl _ | c + 9, hc => absurd hc (by omega)))⟩, ⟨_, rfl, (sc_sim (n := 9) (fun c hc => match c, hc with | 0, _ => T.sim_refl _ | 1, _ => T.sim_refl _ | 2, _ => T.sim_refl _ | 3, _ => T.sim_refl _ | 4, _ => T.sim_refl _ | 5, _ => T.sim_refl _ | 6, _ => T.sim_refl _ | 7, _ => T.sim_refl _ | 8, _ => T.sim_refl _ | c + 9, hc => absurd hc (by omega)))⟩, ⟨rfl, rfl⟩, ⟨rfl, rfl⟩, ⟨rfl, rfl⟩, ⟨rfl, rfl⟩, ⟨rfl, rfl⟩, ⟨rfl, rfl⟩, ⟨rfl, rfl⟩, Rf rfl, Rf rfl, Rf rfl, ⟨_, rfl, sim_nil⟩, trivial⟩ rfl rfl) ?_
 refine AW.loop (fun i : KInv u.Pipes.length => (.sl 5 (.v (iv i.k)) :: .sl 2 (.p 2 [] 9 0 0) :: .sl 3 (.p 3 [] 9 0 0) :: .rt 1 .box (T.s 9 1 fun k c => ([(T.v (iv u.Next), none), (T.v (iv u.Tick), none), (T.j, none), (T.j, none), (T.j, none), (T.j, none), (T.j, none), (T.j, none), (T.j, none)].getD (k * 9 + c) (T.j, none)).fst) :: .al 1 2 (.h base []) :: .al 1 3 (.h (base + 1) []) :: .al 1 4 (.h (base + 2) []) :: .al 1 5 (.h (base + 3) []) :: .al 1 6 (.h (base + 4) []) :: .al 1 7 (.h (base + 5) []) :: .al 1 8 (.h (base + 6) []) :: .rt base .ro (tr u.Progs) :: .rt (base + 1) .ro (tr u.Procs) :: .rt (base + 2) .ro (tr u.Opens) :: .rt (base + 3) .ro (tr u.Pipes) :: .rt (base + 4) .ro (tr u.Files) :: .rt (base + 5) .ro (tr u.Ready) :: .rt (base + 6) .ro (tr u.Out) :: .sl 1 (.p 1 [] 9 0 0) :: .rt 2 .box (T.s 9 1 fun _ c => [T.v (iv 0), T.v (iv 0), T.s 1 0 fun _ _ => T.j, T.s 10 0 fun _ _ => T.j, T.s 5 0 fun _ _ => T.j, T.s 2 0 fun _ _ => T.j, T.s 2 0 fun _ _ => T.j, T.s 1 0 fun _ _ => T.j, T.s 1 0 fun _ _ => T.j].getD c T.j) :: .rt 3 .box (T.s 9 1 fun _ c => [T.v (iv u.Next), T.v (iv u.Tick), T.j, T.j, T.j, T.j, T.j, T.j, T.j].getD c T.j) :: .al 3 2 (.h 10 []) :: .al 3 3 (.h 30 []) :: .al 3 4 (.h 35 []) :: .al 3 5 (.h 64 []) :: .al 3 6 (.h (base + 4) []) :: .al 3 7 (.h (base + 5) []) :: .al 3 8 (.h (base + 6) []) :: .rt 10 .row (tr u.Progs) :: .rt 30 .row (tr u.Procs) :: .rt 35 .row (tr u.Opens) :: .rt 64 .row (tr (u.Pipes.take i.k)) :: [])) (fun i => u.Pipes.length - i.k) ⟨0, Nat.zero_le _⟩ ?_
 intro i
 have hle := i.le
 refine sr2 ?_
 refine mn ?_
 refine qq (fA fl31_5) ?_
 refine ql ag27 ?_
 refine qh sl27 ?_
 refine nm ?_
 refine qb ?_
 refine nc (fun c2 => ?_) fun c2 => ?_
 ·try simp only [cnd] at c2
  have hik := wt_ge (show i.k < u.Pipes.length by omega)
  have hik2 : Mk.wt (u.Pipes.getD i.k En.dflt) = (u.Pipes.getD i.k En.dflt).Data.length := wt_ints _
  have htl : (u.Pipes.take i.k).length ≤ 1048576 := by rw [List.length_take]; omega
  refine jd (AW.seq (AW.block ?_))
  refine AW.draw [0, 1, 2, 3, 4, 5, 6, 7, 9, 10, 11, 12, 13, 14, 16, 19] rfl (by decide +kernel) ?_
  refine tk 0 rfl (fA fl31_5) ?_
  refine tk 1 rfl (Qt.load1 rfl rfl rfl ag27) ?_
  refine na ?_
  refine tk 2 rfl (fA fl31_5) ?_
  refine tk 3 rfl (Qt.load1 rfl rfl rfl ag27) ?_
  refine tk 4 rfl Qt.move ?_
  refine na ?_
  refine tk 5 rfl (ix sl27 sz153) ?_
  refine tk 6 rfl (fA fl153_0) ?_
  refine tk 7 rfl (Qt.load1 rfl rfl rfl ag3) ?_
  refine na ?_
  refine tk 9 rfl (fA fl31_5) ?_
  refine tk 10 rfl (Qt.load1 rfl rfl rfl ag27) ?_
  refine tk 11 rfl Qt.move ?_
  refine na ?_
  refine tk 12 rfl (ix sl27 sz153) ?_
  refine tk 13 rfl (fA fl153_1) ?_
  refine tk 14 rfl (Qt.load1 rfl rfl rfl ag29) ?_
  refine na ?_
  refine a1 8 [0, 1, 2, 3, 4, 5, 6, 7, 9, 10, 11, 12, 13, 14] [] rfl rfl sS ?_
  refine na ?_
  refine na ?_
  refine ae rfl (fA fl31_5) ?_
  refine na ?_
  refine ae rfl (Qt.load1 rfl rfl rfl ag27) ?_
  refine na ?_
  refine ae rfl (fA fl31_5) ?_
  refine na ?_
  refine ae rfl (Qt.load1 rfl rfl rfl ag27) ?_
  refine na ?_
  refine ae rfl Qt.move ?_
  refine na ?_
  refine ae rfl (ix sl27 sz153) ?_
  refine na ?_
  refine ae rfl (fA fl153_0) ?_
  refine na ?_
  refine ae rfl (Qt.load1 rfl rfl rfl ag3) ?_
  refine na ?_
  refine ae rfl (fA fl31_5) ?_
  refine na ?_
  refine ae rfl (Qt.load1 rfl rfl rfl ag27) ?_
  refine na ?_
  refine ae rfl Qt.move ?_
  refine na ?_
  refine ae rfl (ix sl27 sz153) ?_
  refine na ?_
  refine ae rfl (fA fl153_1) ?_
  refine na ?_
  refine ae rfl (Qt.load1 rfl rfl rfl ag29) ?_
  refine na ?_
  refine a1 15 [0, 1, 2, 3, 4, 5, 6, 7] [14, 8, 13, 12, 11, 10, 9] rfl rfl (by first | exact Stp.appendC rfl (by decide) (by decide) rfl rfl (by omega) | exact Stp.appendM rfl (by decide) (by decide) rfl rfl rfl (by omega)) ?_
  refine na ?_
  refine na ?_
  refine ae rfl (fA fl31_5) ?_
  refine na ?_
  refine ae rfl (Qt.load1 rfl rfl rfl ag27) ?_
  refine na ?_
  refine ae rfl (fA fl31_5) ?_
  refine na ?_
  refine ae rfl (Qt.load1 rfl rfl rfl ag27) ?_
  refine na ?_
  refine ae rfl Qt.move ?_
  refine na ?_
  refine ae rfl (ix sl27 sz153) ?_
  refine na ?_
  refine ae rfl (fA fl153_0) ?_
  refine na ?_
  refine ae rfl (Qt.load1 rfl rfl rfl ag3) ?_
  refine na ?_
  refine AWA.rep 61 (tr (u.Pipes.getD i.k En.dflt).Data) rfl (app_nil (α := Int)) ?_
  refine na ?_
  refine tk 16 rfl (Qt.build rfl) ?_
  refine a1 17 [0, 1] [16, 15, 7, 14, 8, 6, 13, 5, 12, 4, 3, 11, 10, 2, 9] rfl rfl sS ?_
  refine na ?_
  refine na ?_
  refine ae rfl (fA fl31_5) ?_
  refine na ?_
  refine ae rfl (Qt.load1 rfl rfl rfl ag27) ?_
  refine na ?_
  refine AWA.rep 63 (tr [(u.Pipes.getD i.k En.dflt)]) rfl (row1_sim (α := DPipe) (fun c hc => match c, hc with | 0, _ => T.sim_refl _ | 1, _ => T.sim_refl _ | c + 2, hc => absurd hc (by simp only [En.n]; omega))) ?_
  refine na ?_
  refine a1 18 [] [17, 15, 1, 16, 14, 8, 0, 7, 13, 6, 12, 5, 11, 10, 4, 3, 9, 2] rfl rfl (Stp.appendM rfl (by decide) (by decide) rfl rfl rfl (by simp only [List.length_cons, List.length_nil]; omega)) ?_
  refine na ?_
  refine na ?_
  refine AWA.rep 64 (tr (u.Pipes.take (i.k + 1))) rfl (by rw [take_snocG En.dflt (show i.k < u.Pipes.length by omega)]; exact app_sim (l := u.Pipes.take i.k) (l' := [u.Pipes.getD i.k En.dflt]) rfl (fun _ _ _ _ => rfl) (fun _ _ _ _ => rfl)) ?_
  refine na ?_
  refine tk 19 rfl (fA fl31_5) ?_
  refine a1 20 [] [19, 18, 17, 16, 15, 14, 13, 12, 11, 10, 9, 8, 7, 6, 5, 4, 3, 2, 1, 0] rfl rfl (by first | exact Stp.storeA rfl rfl rfl rfl (by decide) rfl | exact Stp.store rfl rfl (by simp) rfl rfl rfl (by decide) rfl) ?_
  refine na ?_
  refine na ?_
  refine nz ?_
  refine AW.region ?_
  refine qm ?_
  refine ba ?_
  refine qn ?_
  refine ⟨⟨i.k + 1, by omega⟩, Weak.sim ⟨st1, rfl, rfl, Rf rfl, ⟨rfl, rfl⟩, ⟨rfl, rfl⟩, ⟨rfl, rfl⟩, ⟨rfl, rfl⟩, ⟨rfl, rfl⟩, ⟨rfl, rfl⟩, ⟨rfl, rfl⟩, Rf rfl, Rf rfl, Rf rfl, Rf rfl, Rf rfl, Rf rfl, Rf rfl, rfl, Rf rfl, ⟨_, rfl, (sc_sim (n := 9) (fun c hc => match c, hc with | 0, _ => T.sim_refl _ | 1, _ => T.sim_refl _ | 2, _ => T.sim_refl _ | 3, _ => T.sim_refl _ | 4, _ => T.sim_refl _ | 5, _ => T.sim_refl _ | 6, _ => T.sim_refl _ | 7, _ => T.sim_refl _ | 8, _ => T.sim_refl _ | c + 9, hc => absurd hc (by omega)))⟩, ⟨rfl, rfl⟩, ⟨rfl, rfl⟩, ⟨rfl, rfl⟩, ⟨rfl, rfl⟩, ⟨rfl, rfl⟩, ⟨rfl, rfl⟩, ⟨rfl, rfl⟩, Rf rfl, Rf rfl, Rf rfl, Rf rfl, trivial⟩ rfl rfl, ?_⟩
  show u.Pipes.length - (i.k + 1) < u.Pipes.length - i.k
  omega
 try simp only [cnd] at c2
 refine AW.rep 64 (tr u.Pipes) rfl (by rw [List.take_of_length_le (by omega)]; exact T.sim_refl _) ?_
 refine AW.exit ?_
 dsimp only [thenQ, blockQ, reduceIte]
 refine sr ?_
 refine sp sS ?_
 refine nm ?_
 refine qq (fA fl31_6) ?_
 refine ss ?_
 refine nl ?_
 refine sr2 ?_
 refine qn ?_
 refine AW.block ?_
 refine AW.renR 66 93 rfl (by decide) (by decide) ?_
 refine AW.weak (L' := (.sl 6 (.v (iv (0 : Nat))) :: .sl 2 (.p 2 [] 9 0 0) :: .sl 3 (.p 3 [] 9 0 0) :: .rt 1 .box (T.s 9 1 fun k c => ([(T.v (iv u.Next), none), (T.v (iv u.Tick), none), (T.j, none), (T.j, none), (T.j, none), (T.j, none), (T.j, none), (T.j, none), (T.j, none)].getD (k * 9 + c) (T.j, none)).fst) :: .al 1 2 (.h base []) :: .al 1 3 (.h (base + 1) []) :: .al 1 4 (.h (base + 2) []) :: .al 1 5 (.h (base + 3) []) :: .al 1 6 (.h (base + 4) []) :: .al 1 7 (.h (base + 5) []) :: .al 1 8 (.h (base + 6) []) :: .rt base .ro (tr u.Progs) :: .rt (base + 1) .ro (tr u.Procs) :: .rt (base + 2) .ro (tr u.Opens) :: .rt (base + 3) .ro (tr u.Pipes) :: .rt (base + 4) .ro (tr u.Files) :: .rt (base + 5) .ro (tr u.Ready) :: .rt (base + 6) .ro (tr u.Out) :: .sl 1 (.p 1 [] 9 0 0) :: .rt 2 .box (T.s 9 1 fun _ c => [T.v (iv 0), T.v (iv 0), T.s 1 0 fun _ _ => T.j, T.s 10 0 fun _ _ => T.j, T.s 5 0 fun _ _ => T.j, T.s 2 0 fun _ _ => T.j, T.s 2 0 fun _ _ => T.j, T.s 1 0 fun _ _ => T.j, T.s 1 0 fun _ _ => T.j].getD c T.j) :: .rt 3 .box (T.s 9 1 fun _ c => [T.v (iv u.Next), T.v (iv u.Tick), T.j, T.j, T.j, T.j, T.j, T.j, T.j].getD c T.j) :: .al 3 2 (.h 10 []) :: .al 3 3 (.h 30 []) :: .al 3 4 (.h 35 []) :: .al 3 5 (.h 64 []) :: .al 3 6 (.h 93 []) :: .al 3 7 (.h (base + 5) []) :: .al 3 8 (.h (base + 6) []) :: .rt 10 .row (tr u.Progs) :: .rt 30 .row (tr u.Procs) :: .rt 35 .row (tr u.Opens) :: .rt 64 .row (tr u.Pipes) :: .rt 93 .row (tr (u.Files.take (0 : Nat))) :: [])) (Weak.sim ⟨rfl, rfl, rfl, Rf rfl, ⟨rfl, rfl⟩, ⟨rfl, rfl⟩, ⟨rfl, rfl⟩, ⟨rfl, rfl⟩, ⟨rfl, rfl⟩, ⟨rfl, rfl⟩, ⟨rfl, rfl⟩, Rf rfl, Rf rfl, Rf rfl, Rf rfl, Rf rfl, Rf rfl, Rf rfl, rfl, ⟨_, rfl, (sc_sim (n := 9) (fun c hc => match c, hc with | 0, _ => T.sim_refl _ | 1, _ => T.sim_refl _ | 2, _ => T.sim_refl _ | 3, _ => T.sim_refl _ | 4, _ => T.sim_refl _ | 5, _ => T.sim_refl _ | 6, _ => T.sim_refl _ | 7, _ => T.sim_refl _ | 8, _ => T.sim_refl _ | c + 9, hc => absurd hc (by omega)))⟩, ⟨_, rfl, (sc_sim (n := 9) (fun c hc => match c, hc with | 0, _ => T.sim_refl _ | 1, _ => T.sim_refl _ | 2, _ => T.sim_refl _ | 3, _ => T.sim_refl _ | 4, _ => T.sim_refl _ | 5, _ => T.sim_refl _ | 6, _ => T.sim_refl _ | 7, _ => T.sim_refl _ | 8, _ => T.sim_refl _ | c + 9, hc => absurd hc (by omega)))⟩, ⟨rfl, rfl⟩, ⟨rfl, rfl⟩, ⟨rfl, rfl⟩, ⟨rfl, rfl⟩, ⟨rfl, rfl⟩, ⟨rfl, rfl⟩, ⟨rfl, rfl⟩, Rf rfl, Rf rfl, Rf rfl, Rf rfl, ⟨_, rfl, sim_nil⟩, trivial⟩ rfl rfl) ?_
 refine AW.loop (fun i : KInv u.Files.length => (.sl 6 (.v (iv i.k)) :: .sl 2 (.p 2 [] 9 0 0) :: .sl 3 (.p 3 [] 9 0 0) :: .rt 1 .box (T.s 9 1 fun k c => ([(T.v (iv u.Next), none), (T.v (iv u.Tick), none), (T.j, none), (T.j, none), (T.j, none), (T.j, none), (T.j, none), (T.j, none), (T.j, none)].getD (k * 9 + c) (T.j, none)).fst) :: .al 1 2 (.h base []) :: .al 1 3 (.h (base + 1) []) :: .al 1 4 (.h (base + 2) []) :: .al 1 5 (.h (base + 3) []) :: .al 1 6 (.h (base + 4) []) :: .al 1 7 (.h (base + 5) []) :: .al 1 8 (.h (base + 6) []) :: .rt base .ro (tr u.Progs) :: .rt (base + 1) .ro (tr u.Procs) :: .rt (base + 2) .ro (tr u.Opens) :: .rt (base + 3) .ro (tr u.Pipes) :: .rt (base + 4) .ro (tr u.Files) :: .rt (base + 5) .ro (tr u.Ready) :: .rt (base + 6) .ro (tr u.Out) :: .sl 1 (.p 1 [] 9 0 0) :: .rt 2 .box (T.s 9 1 fun _ c => [T.v (iv 0), T.v (iv 0), T.s 1 0 fun _ _ => T.j, T.s 10 0 fun _ _ => T.j, T.s 5 0 fun _ _ => T.j, T.s 2 0 fun _ _ => T.j, T.s 2 0 fun _ _ => T.j, T.s 1 0 fun _ _ => T.j, T.s 1 0 fun _ _ => T.j].getD c T.j) :: .rt 3 .box (T.s 9 1 fun _ c => [T.v (iv u.Next), T.v (iv u.Tick), T.j, T.j, T.j, T.j, T.j, T.j, T.j].getD c T.j) :: .al 3 2 (.h 10 []) :: .al 3 3 (.h 30 []) :: .al 3 4 (.h 35 []) :: .al 3 5 (.h 64 []) :: .al 3 6 (.h 93 []) :: .al 3 7 (.h (base + 5) []) :: .al 3 8 (.h (base + 6) []) :: .rt 10 .row (tr u.Progs) :: .rt 30 .row (tr u.Procs) :: .rt 35 .row (tr u.Opens) :: .rt 64 .row (tr u.Pipes) :: .rt 93 .row (tr (u.Files.take i.k)) :: [])) (fun i => u.Files.length - i.k) ⟨0, Nat.zero_le _⟩ ?_
 intro i
 have hle := i.le
 refine sr2 ?_
 refine mn ?_
 refine qq (fA fl31_6) ?_
 refine ql ag28 ?_
 refine qh sl28 ?_
 refine nm ?_
 refine qb ?_
 refine nc (fun c3 => ?_) fun c3 => ?_
 ·try simp only [cnd] at c3
  have hik := wt_ge (show i.k < u.Files.length by omega)
  have hik2 : Mk.wt (u.Files.getD i.k En.dflt) = (u.Files.getD i.k En.dflt).Data.length := wt_ints _
  have htl : (u.Files.take i.k).length ≤ 1048576 := by rw [List.length_take]; omega
  refine jd (AW.seq (AW.block ?_))
  refine AW.draw [0, 1, 2, 3, 4, 5, 6, 7, 9, 10, 11, 12, 13, 14, 16, 19] rfl (by decide +kernel) ?_
  refine tk 0 rfl (fA fl31_6) ?_
  refine tk 1 rfl (Qt.load1 rfl rfl rfl ag28) ?_
  refine na ?_
  refine tk 2 rfl (fA fl31_6) ?_
  refine tk 3 rfl (Qt.load1 rfl rfl rfl ag28) ?_
  refine tk 4 rfl Qt.move ?_
  refine na ?_
  refine tk 5 rfl (ix sl28 sz155) ?_
  refine tk 6 rfl (fA fl155_0) ?_
  refine tk 7 rfl (Qt.load1 rfl rfl rfl ag3) ?_
  refine na ?_
  refine tk 9 rfl (fA fl31_6) ?_
  refine tk 10 rfl (Qt.load1 rfl rfl rfl ag28) ?_
  refine tk 11 rfl Qt.move ?_
  refine na ?_
  refine tk 12 rfl (ix sl28 sz155) ?_
  refine tk 13 rfl (fA fl155_1) ?_
  refine tk 14 rfl (Qt.load1 rfl rfl rfl ag29) ?_
  refine na ?_
  refine a1 8 [0, 1, 2, 3, 4, 5, 6, 7, 9, 10, 11, 12, 13, 14] [] rfl rfl sS ?_
  refine na ?_
  refine na ?_
  refine ae rfl (fA fl31_6) ?_
  refine na ?_
  refine ae rfl (Qt.load1 rfl rfl rfl ag28) ?_
  refine na ?_
  refine ae rfl (fA fl31_6) ?_
  refine na ?_
  refine ae rfl (Qt.load1 rfl rfl rfl ag28) ?_
  refine na ?_
  refine ae rfl Qt.move ?_
  refine na ?_
  refine ae rfl (ix sl28 sz155) ?_
  refine na ?_
  refine ae rfl (fA fl155_0) ?_
  refine na ?_
  refine ae rfl (Qt.load1 rfl rfl rfl ag3) ?_
  refine na ?_
  refine ae rfl (fA fl31_6) ?_
  refine na ?_
  refine ae rfl (Qt.load1 rfl rfl rfl ag28) ?_
  refine na ?_
  refine ae rfl Qt.move ?_
  refine na ?_
  refine ae rfl (ix sl28 sz155) ?_
  refine na ?_
  refine ae rfl (fA fl155_1) ?_
  refine na ?_
  refine ae rfl (Qt.load1 rfl rfl rfl ag29) ?_
  refine na ?_
  refine a1 15 [0, 1, 2, 3, 4, 5, 6, 7] [14, 8, 13, 12, 11, 10, 9] rfl rfl (by first | exact Stp.appendC rfl (by decide) (by decide) rfl rfl (by omega) | exact Stp.appendM rfl (by decide) (by decide) rfl rfl rfl (by omega)) ?_
  refine na ?_
  refine na ?_
  refine ae rfl (fA fl31_6) ?_
  refine na ?_
  refine ae rfl (Qt.load1 rfl rfl rfl ag28) ?_
  refine na ?_
  refine ae rfl (fA fl31_6) ?_
  refine na ?_
  refine ae rfl (Qt.load1 rfl rfl rfl ag28) ?_
  refine na ?_
  refine ae rfl Qt.move ?_
  refine na ?_
  refine ae rfl (ix sl28 sz155) ?_
  refine na ?_
  refine ae rfl (fA fl155_0) ?_
  refine na ?_
  refine ae rfl (Qt.load1 rfl rfl rfl ag3) ?_
  refine na ?_
  refine AWA.rep 90 (tr (u.Files.getD i.k En.dflt).Data) rfl (app_nil (α := Int)) ?_
  refine na ?_
  refine tk 16 rfl (Qt.build rfl) ?_
  refine a1 17 [0, 1] [16, 15, 7, 14, 8, 6, 13, 5, 12, 4, 3, 11, 10, 2, 9] rfl rfl sS ?_
  refine na ?_
  refine na ?_
  refine ae rfl (fA fl31_6) ?_
  refine na ?_
  refine ae rfl (Qt.load1 rfl rfl rfl ag28) ?_
  refine na ?_
  refine AWA.rep 92 (tr [(u.Files.getD i.k En.dflt)]) rfl (row1_sim (α := DFile) (fun c hc => match c, hc with | 0, _ => T.sim_refl _ | 1, _ => T.sim_refl _ | c + 2, hc => absurd hc (by simp only [En.n]; omega))) ?_
  refine na ?_
  refine a1 18 [] [17, 15, 1, 16, 14, 8, 0, 7, 13, 6, 12, 5, 11, 10, 4, 3, 9, 2] rfl rfl (Stp.appendM rfl (by decide) (by decide) rfl rfl rfl (by simp only [List.length_cons, List.length_nil]; omega)) ?_
  refine na ?_
  refine na ?_
  refine AWA.rep 93 (tr (u.Files.take (i.k + 1))) rfl (by rw [take_snocG En.dflt (show i.k < u.Files.length by omega)]; exact app_sim (l := u.Files.take i.k) (l' := [u.Files.getD i.k En.dflt]) rfl (fun _ _ _ _ => rfl) (fun _ _ _ _ => rfl)) ?_
  refine na ?_
  refine tk 19 rfl (fA fl31_6) ?_
  refine a1 20 [] [19, 18, 17, 16, 15, 14, 13, 12, 11, 10, 9, 8, 7, 6, 5, 4, 3, 2, 1, 0] rfl rfl (by first | exact Stp.storeA rfl rfl rfl rfl (by decide) rfl | exact Stp.store rfl rfl (by simp) rfl rfl rfl (by decide) rfl) ?_
  refine na ?_
  refine na ?_
  refine nz ?_
  refine AW.region ?_
  refine qm ?_
  refine ba ?_
  refine qn ?_
  refine ⟨⟨i.k + 1, by omega⟩, Weak.sim ⟨st1, rfl, rfl, Rf rfl, ⟨rfl, rfl⟩, ⟨rfl, rfl⟩, ⟨rfl, rfl⟩, ⟨rfl, rfl⟩, ⟨rfl, rfl⟩, ⟨rfl, rfl⟩, ⟨rfl, rfl⟩, Rf rfl, Rf rfl, Rf rfl, Rf rfl, Rf rfl, Rf rfl, Rf rfl, rfl, Rf rfl, ⟨_, rfl, (sc_sim (n := 9) (fun c hc => match c, hc with | 0, _ => T.sim_refl _ | 1, _ => T.sim_refl _ | 2, _ => T.sim_refl _ | 3, _ => T.sim_refl _ | 4, _ => T.sim_refl _ | 5, _ => T.sim_refl _ | 6, _ => T.sim_refl _ | 7, _ => T.sim_refl _ | 8, _ => T.sim_refl _ | c + 9, hc => absurd hc (by omega)))⟩, ⟨rfl, rfl⟩, ⟨rfl, rfl⟩, ⟨rfl, rfl⟩, ⟨rfl, rfl⟩, ⟨rfl, rfl⟩, ⟨rfl, rfl⟩, ⟨rfl, rfl⟩, Rf rfl, Rf rfl, Rf rfl, Rf rfl, Rf rfl, trivial⟩ rfl rfl, ?_⟩
  show u.Files.length - (i.k + 1) < u.Files.length - i.k
  omega
 try simp only [cnd] at c3
 refine AW.rep 93 (tr u.Files) rfl (by rw [List.take_of_length_le (by omega)]; exact T.sim_refl _) ?_
 refine AW.exit ?_
 dsimp only [thenQ, blockQ, reduceIte]
 refine sr ?_
 refine sp sS ?_
 refine nm ?_
 refine qq (fA fl31_7) ?_
 refine ql ag29 ?_
 refine sp (by first | exact Stp.appendC rfl (by decide) (by decide) rfl rfl (by omega) | exact Stp.appendM rfl (by decide) (by decide) rfl rfl rfl (by omega)) ?_
 refine nm ?_
 refine AWL.rep 98 (tr u.Ready) rfl (app_nil (α := Int)) ?_
 refine nm ?_
 refine qq (fA fl31_7) ?_
 refine ss ?_
 refine ns ?_
 refine sp sS ?_
 refine nm ?_
 refine qq (fA fl31_8) ?_
 refine ql ag29 ?_
 refine sp (by first | exact Stp.appendC rfl (by decide) (by decide) rfl rfl (by omega) | exact Stp.appendM rfl (by decide) (by decide) rfl rfl rfl (by omega)) ?_
 refine nm ?_
 refine AWL.rep 103 (tr u.Out) rfl (app_nil (α := Int)) ?_
 refine nm ?_
 refine qq (fA fl31_8) ?_
 refine ss ?_
 refine ns ?_
 refine qG ag31 sz31 ?_
 refine nm ?_
 refine ss ?_
 refine nl ?_
 refine AW.ret (endQ_ret (.cons (.cellG 2 31 rfl rfl rfl ag31 sz31 (by decide)) .nil) ?_)
 refine ⟨fun i => if i = 0 then 10 else if i = 1 then 30 else if i = 2 then 35 else if i = 3 then 64 else if i = 4 then 93 else if i = 5 then 98 else 103, rfl, nodup_of rfl, ?_⟩
 intro r hr
 simp only [List.mem_cons, List.not_mem_nil, or_false] at hr
 rcases hr with rfl | rfl | rfl | rfl | rfl | rfl | rfl <;> exact ⟨by simp, rootL_mem rfl⟩
end Go.Proofs.YtfbefcmeghpalaaGreat.VM
