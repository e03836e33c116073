/- Contracts of functions of the program. No conditions beyond those that each states. -/
import Derived.Test.YtimmbmphfgnelaaGreatCZF
import Derived.Test.YtimmbmphfgnelaaGreatCZG
set_option linter.all false
namespace Go.Proofs.YtimmbmphfgnelaaGreat.VM
open Go Go.RowKit Go.Proofs
set_option maxHeartbeats 8000000 in
set_option maxRecDepth 10000 in
theorem stuck1_con (p : DProc) : Con Tryz.prog 74 [.g [.v (iv p.Pid), .v (iv p.Parent), .v (iv p.State), .v (iv p.Prog), .v (iv p.Cpu.Pc), .h base [], .h (base + 1) [], .h (base + 2) [], .v (iv p.Until), .v (iv p.Code)]] [.rt base .ro (tr p.Cpu.Regs), .rt (base + 1) .ro (tr p.Mem), .rt (base + 2) .ro (tr p.Fds)] (fun y _ => y = .v (.bool (idleP p))) := by
 refine Con.of_body Tryz.func74 rfl (by simp) ?_
 rw [Tryz.ntmps74]
 refine AW.seq (AW.region ?_)
 refine sp (Stp.boxB rfl (by decide) (by decide) rfl rfl rfl rfl) ?_
 refine nm ?_
 refine qq Qt.assign ?_
 refine nl ?_
 refine AW.seq (AW.region ?_)
 refine qq (fA fl97_2) ?_
 refine qq (Qt.load1 rfl rfl rfl ag3) ?_
 refine nm ?_
 refine qq (Qt.binOp rfl rfl rfl) ?_
 refine qq Qt.move ?_
 apply AWL.cut 3
 ·intro Kg1
  refine AWL.splitF 6 rfl (fun g1 => ?_) (fun g1 => ?_)
  ·refine AWL.q rfl (nF g1) rfl (by decide) (fA fl97_2) ?_
   refine nm ?_
   refine AWL.q rfl (nF g1) rfl (by decide) (Qt.load1 rfl rfl rfl ag3) ?_
   refine AWL.q rfl (nF g1) rfl (by decide) (Qt.binOp rfl rfl rfl) ?_
   exact AWL.weak (Weak.join (d := 9) (ds := [7, 8, 9]) rfl (ifF g1 _ undef) (by simp only [go_sem, Int.reduceToNat, Nat.reduceLT, reduceIte, Nat.reduceEqDiff, Nat.reduceAdd, Nat.reduceMul, Nat.reduceBEq, reduceCtorEq]; rfl)) Kg1
  ·refine AWL.out rfl (nT g1) rfl (by decide) ?_
   refine AWL.out rfl (nT g1) rfl (by decide) ?_
   refine AWL.out rfl (nT g1) rfl (by decide) ?_
   exact AWL.weak (Weak.join (d := 9) (ds := [7, 8, 9]) rfl (ifT g1 undef _) (by simp only [go_sem, Int.reduceToNat, Nat.reduceLT, reduceIte, Nat.reduceEqDiff, Nat.reduceAdd, Nat.reduceMul, Nat.reduceBEq, reduceCtorEq])) Kg1
 refine qq (Qt.pickOr rfl rfl rfl) ?_
 refine nm ?_
 refine qq Qt.assign ?_
 refine nl ?_
 refine AW.ret (endQ_ret (.cons (.tmp 2) .nil) ?_)
 rfl
set_option maxHeartbeats 8000000 in
set_option maxRecDepth 10000 in
theorem ixPS_con {fid : FuncId} {p : DProc → Bool} (hE : Ent Tryz.prog fid) (hp : ∀ x : DProc, Con Tryz.prog fid [.g [.v (iv x.Pid), .v (iv x.Parent), .v (iv x.State), .v (iv x.Prog), .v (iv x.Cpu.Pc), .h base [], .h (base + 1) [], .h (base + 2) [], .v (iv x.Until), .v (iv x.Code)]] [.rt base .ro (tr x.Cpu.Regs), .rt (base + 1) .ro (tr x.Mem), .rt (base + 2) .ro (tr x.Fds)] (fun y _ => y = .v (.bool (p x)))) (l : List DProc) : Con Tryz.prog 201 [.h base [], .f fid []] [.rt base .ro (tr l)] (fun y _ => y = .v (iv (ixOf p l))) := by
 refine Con.of_body Tryz.func201 rfl (by simp) ?_
 rw [Tryz.ntmps201]
 refine AW.len base [] rfl (by simp [Okp]) rfl (fun hl => ?_)
 refine AW.seq (AW.region ?_)
 refine qq Qt.assign ?_
 refine nl ?_
 refine AW.seq (AW.seq (AW.region ?_))
 refine qq Qt.move ?_
 refine qq (Qt.lenH rfl rfl rfl sl33) ?_
 refine nm ?_
 refine qq Qt.move ?_
 refine nl ?_
 refine AW.block ?_
 refine AW.weak (L' := [.sl 8 (.v (iv (0 : Nat))), .sl 7 (.v (iv l.length)), .sl 0 (.h base []), .sl 1 (.f fid []), .rt base .ro (tr l)]) (Weak.sim ⟨rfl, rfl, rfl, rfl, ⟨_, rfl, T.sim_refl _⟩, trivial⟩ rfl rfl) ?_
 refine AW.loop (fun i : IxInv p l => [.sl 8 (.v (iv i.k)), .sl 7 (.v (iv l.length)), .sl 0 (.h base []), .sl 1 (.f fid []), .rt base .ro (tr l)]) (fun i => l.length - i.k) ⟨0, Nat.zero_le _, rfl⟩ ?_
 intro i
 have hle := i.le
 refine AW.seq (AW.region ?_)
 refine qq (Qt.binOp rfl rfl rfl) ?_
 refine nl ?_
 refine AW.seq ?_
 refine AW.cond rfl (fun c1 => ?_) (fun c1 => ?_)
 ·have k1 := c1
  try simp only [cnd] at c1
  refine jd (AW.seq (AW.block (AW.seq (AW.region ?_))))
  refine qq Qt.move ?_
  refine nm ?_
  refine qq Qt.assign ?_
  refine nl ?_
  refine AW.seq (AW.region ?_)
  refine qq Qt.move ?_
  refine qq Qt.move ?_
  refine nm ?_
  refine qq Qt.move ?_
  refine qq (Qt.indexAddr rfl rfl rfl rfl sl33 sz97 (by decide) (by omega)) ?_
  refine qq (Qt.loadG rfl rfl rfl ag97 sz97 (by decide)) ?_
  refine nm ?_
  refine cv hE rfl rfl (hp (l.getD i.k En.dflt)) ?_
  refine nl ?_
  refine AW.cond rfl (fun c2 => ?_) (fun c2 => ?_)
  ·have k2 := c2
   try simp only [cnd] at c2
   refine AW.seq (AW.region ?_)
   refine qq Qt.move ?_
   refine nm ?_
   refine qq Qt.assign ?_
   refine nl ?_
   refine AW.ret (endQ_ret (.cons (.tmp 4) .nil) ?_)
   rw [ixOf_hit i En.dflt (by omega) c2]
   rfl
  have k2 := c2
  try simp only [cnd] at c2
  refine jd (AW.region ?_)
  refine qq (Qt.binOp rfl rfl (by first | exact pbAdd (by omega) | rfl)) ?_
  refine qq Qt.move ?_
  refine nl ?_
  refine ⟨⟨i.k + 1, by omega, i.next En.dflt (by omega) c2⟩, Weak.sim ⟨(by simp only [slotL, reduceIte, Nat.reduceEqDiff]; first | rfl | (rw [IntWalk.i64_in _ (by omega)]; rfl)), rfl, rfl, rfl, ⟨_, rfl, T.sim_refl _⟩, trivial⟩ rfl rfl, ?_⟩
  show l.length - (i.k + 1) < l.length - i.k
  omega
 have k1 := c1
 try simp only [cnd] at c1
 refine AW.exit ?_
 dsimp only [thenQ, blockQ, reduceIte]
 refine AW.seq (AW.region ?_)
 refine qq Qt.assign ?_
 refine nl ?_
 refine AW.ret (endQ_ret (.cons (.tmp 4) .nil) ?_)
 rw [ixOf_none i (by omega)]
 rfl
set_option maxHeartbeats 8000000 in
set_option maxRecDepth 10000 in
theorem hasPS_con {fid : FuncId} {p : DProc → Bool} (hE : Ent Tryz.prog fid) (hp : ∀ x : DProc, Con Tryz.prog fid [.g [.v (iv x.Pid), .v (iv x.Parent), .v (iv x.State), .v (iv x.Prog), .v (iv x.Cpu.Pc), .h base [], .h (base + 1) [], .h (base + 2) [], .v (iv x.Until), .v (iv x.Code)]] [.rt base .ro (tr x.Cpu.Regs), .rt (base + 1) .ro (tr x.Mem), .rt (base + 2) .ro (tr x.Fds)] (fun y _ => y = .v (.bool (p x)))) (l : List DProc) : Con Tryz.prog 73 [.h base [], .f fid []] [.rt base .ro (tr l)] (fun y _ => y = .v (.bool (l.any p))) := by
 refine Con.of_body Tryz.func73 rfl (by simp) ?_
 rw [Tryz.ntmps73]
 refine AW.seq (AW.region ?_)
 refine qq Qt.assign ?_
 refine nl ?_
 refine AW.seq (AW.region ?_)
 refine qq Qt.move ?_
 refine qq Qt.move ?_
 refine nm ?_
 refine cv Tryz.call201 rfl rfl (ixPS_con hE hp _) ?_
 refine nm ?_
 refine qq (Qt.binOp rfl rfl rfl) ?_
 refine qq Qt.assign ?_
 refine nl ?_
 refine AW.ret (endQ_ret (.cons (.tmp 4) .nil) ?_)
 rw [← ixOf_ge]
 rfl
set_option maxHeartbeats 8000000 in
set_option maxRecDepth 10000 in
theorem StuckI_con (u : DUnix) (hb : unixB u) : Con Tryz.prog 18 [.g [.v (iv u.Next), .v (iv u.Tick), .h base [], .h (base + 1) [], .h (base + 2) [], .h (base + 3) [], .h (base + 4) [], .h (base + 5) [], .h (base + 6) []]] [.rt base .ro (tr u.Progs), .rt (base + 1) .ro (tr u.Procs), .rt (base + 2) .ro (tr u.Opens), .rt (base + 3) .ro (tr u.Pipes), .rt (base + 4) .ro (tr u.Files), .rt (base + 5) .ro (tr u.Ready), .rt (base + 6) .ro (tr u.Out)] (fun y _ => y = .v (.bool (stuckU u))) := by
 refine Con.of_body Tryz.func18 rfl (by simp) ?_
 rw [Tryz.ntmps18]
 refine AW.len (base + 1) [] rfl (by simp [Okp]) rfl (fun hl => ?_)
 refine AW.seq (AW.region ?_)
 refine sp (Stp.boxB rfl (by decide) (by decide) rfl rfl rfl rfl) ?_
 refine nm ?_
 refine qq Qt.assign ?_
 refine nl ?_
 refine AW.seq (AW.region ?_)
 refine qq (Qt.loadG rfl rfl rfl ag38 sz38 (by decide)) ?_
 refine cv Tryz.call13 rfl rfl (UnixOkI_con _ hb) ?_
 refine nm ?_
 refine qq Qt.move ?_
 apply AWL.cut 4
 ·intro Kg1
  refine AWL.split 5 rfl (fun g1 => ?_) (fun g1 => ?_)
  ·refine AWL.q rfl g1 rfl (by decide) (fA fl38_3) ?_
   refine AWL.q rfl g1 rfl (by decide) (Qt.load1 rfl rfl rfl ag33) ?_
   refine nm ?_
   refine AWL.q rfl g1 rfl (by decide) (Qt.lenH rfl rfl rfl sl33) ?_
   refine AWL.q rfl g1 rfl (by decide) (Qt.binOp rfl rfl rfl) ?_
   exact AWL.weak (Weak.join (d := 9) (ds := [6, 7, 8, 9]) rfl (ifT g1 _ undef) (by simp only [go_sem, Int.reduceToNat, Nat.reduceLT, reduceIte, Nat.reduceEqDiff, Nat.reduceAdd, Nat.reduceMul, Nat.reduceBEq, reduceCtorEq]; rfl)) Kg1
  ·refine AWL.out rfl g1 rfl (by decide) ?_
   refine AWL.out rfl g1 rfl (by decide) ?_
   refine AWL.out rfl g1 rfl (by decide) ?_
   refine AWL.out rfl g1 rfl (by decide) ?_
   exact AWL.weak (Weak.join (d := 9) (ds := [6, 7, 8, 9]) rfl (ifF g1 undef _) (by simp only [go_sem, Int.reduceToNat, Nat.reduceLT, reduceIte, Nat.reduceEqDiff, Nat.reduceAdd, Nat.reduceMul, Nat.reduceBEq, reduceCtorEq])) Kg1
 refine qq (Qt.pickAnd rfl rfl rfl) ?_
 refine nm ?_
 refine qq Qt.move ?_
 apply AWL.cut 4
 ·intro Kg2
  refine AWL.split 11 rfl (fun g2 => ?_) (fun g2 => ?_)
  ·refine AWL.q rfl g2 rfl (by decide) (fA fl38_3) ?_
   refine AWL.q rfl g2 rfl (by decide) (Qt.load1 rfl rfl rfl ag33) ?_
   refine nm ?_
   refine AWL.step rfl g2 (Stp.callV rfl (by decide) Tryz.call73 rfl rfl (hasPS_con Tryz.call74 (fun x => stuck1_con x) u.Procs)) ?_
   refine nm ?_
   refine AWL.q rfl g2 rfl (by decide) (Qt.notB rfl) ?_
   exact AWL.weak (Weak.join (d := 15) (ds := [12, 13, 14, 15]) rfl (ifT g2 _ undef) (by simp only [go_sem, Int.reduceToNat, Nat.reduceLT, reduceIte, Nat.reduceEqDiff, Nat.reduceAdd, Nat.reduceMul, Nat.reduceBEq, reduceCtorEq]; rfl)) Kg2
  ·refine AWL.out rfl g2 rfl (by decide) ?_
   refine AWL.out rfl g2 rfl (by decide) ?_
   refine AWL.out rfl g2 rfl (by decide) ?_
   refine AWL.out rfl g2 rfl (by decide) ?_
   exact AWL.weak (Weak.join (d := 15) (ds := [12, 13, 14, 15]) rfl (ifF g2 undef _) (by simp only [go_sem, Int.reduceToNat, Nat.reduceLT, reduceIte, Nat.reduceEqDiff, Nat.reduceAdd, Nat.reduceMul, Nat.reduceBEq, reduceCtorEq])) Kg2
 refine qq (Qt.pickAnd rfl rfl rfl) ?_
 refine qq Qt.assign ?_
 refine nl ?_
 refine AW.ret (endQ_ret (.cons (.tmp 2) .nil) ?_)
 simp only [retX, slotL, reduceIte, Nat.reduceEqDiff]
 congr 2
 simp only [stuckU]
 grind only
theorem idle_all (l : List DProc) : (l.any idleP) = !(l.all fun p => !(idleP p)) := by rw [Bool.eq_iff_iff]; simp
set_option maxHeartbeats 8000000 in
set_option maxRecDepth 10000 in
theorem StuckS_con (u : DUnix) (hb : unixB u) : Con Tryz.prog 17 [.g [.v (iv u.Next), .v (iv u.Tick), .h base [], .h (base + 1) [], .h (base + 2) [], .h (base + 3) [], .h (base + 4) [], .h (base + 5) [], .h (base + 6) []]] [.rt base .ro (tr u.Progs), .rt (base + 1) .ro (tr u.Procs), .rt (base + 2) .ro (tr u.Opens), .rt (base + 3) .ro (tr u.Pipes), .rt (base + 4) .ro (tr u.Files), .rt (base + 5) .ro (tr u.Ready), .rt (base + 6) .ro (tr u.Out)] (fun y _ => y = .v (.bool (stuckU u))) := by
 refine Con.of_body Tryz.func17 rfl (by simp) ?_
 rw [Tryz.ntmps17]
 refine AW.len (base + 1) [] rfl (by simp [Okp]) rfl (fun hl => ?_)
 have hI := idle_all u.Procs
 refine AW.seq (AW.region ?_)
 refine sp (Stp.boxB rfl (by decide) (by decide) rfl rfl rfl rfl) ?_
 refine nm ?_
 refine qq Qt.assign ?_
 refine nl ?_
 refine AW.seq (AW.seq (AW.region ?_))
 refine qq (Qt.loadG rfl rfl rfl ag38 sz38 (by decide)) ?_
 refine cv Tryz.call11 rfl rfl (UnixOkS_con _ hb) ?_
 refine nm ?_
 refine qq (Qt.notB rfl) ?_
 refine qq Qt.move ?_
 apply AWL.cut 4
 ·intro Kg1
  refine AWL.splitF 7 rfl (fun g1 => ?_) (fun g1 => ?_)
  ·refine AWL.q rfl (nF g1) rfl (by decide) (fA fl38_3) ?_
   refine nm ?_
   refine AWL.q rfl (nF g1) rfl (by decide) (Qt.load1 rfl rfl rfl ag33) ?_
   refine AWL.q rfl (nF g1) rfl (by decide) (Qt.lenH rfl rfl rfl sl33) ?_
   refine AWL.q rfl (nF g1) rfl (by decide) (Qt.binOp rfl rfl rfl) ?_
   refine nm ?_
   exact AWL.weak (Weak.join (d := 11) (ds := [8, 9, 10, 11]) rfl (ifF g1 _ undef) (by simp only [go_sem, Int.reduceToNat, Nat.reduceLT, reduceIte, Nat.reduceEqDiff, Nat.reduceAdd, Nat.reduceMul, Nat.reduceBEq, reduceCtorEq]; rfl)) Kg1
  ·refine AWL.out rfl (nT g1) rfl (by decide) ?_
   refine AWL.out rfl (nT g1) rfl (by decide) ?_
   refine AWL.out rfl (nT g1) rfl (by decide) ?_
   refine AWL.out rfl (nT g1) rfl (by decide) ?_
   exact AWL.weak (Weak.join (d := 11) (ds := [8, 9, 10, 11]) rfl (ifT g1 undef _) (by simp only [go_sem, Int.reduceToNat, Nat.reduceLT, reduceIte, Nat.reduceEqDiff, Nat.reduceAdd, Nat.reduceMul, Nat.reduceBEq, reduceCtorEq])) Kg1
 refine qq (Qt.pickOr rfl rfl rfl) ?_
 refine nl ?_
 refine AW.cond rfl (fun c2 => ?_) (fun c2 => ?_)
 ·have k2 := c2
  try simp only [cnd] at c2
  refine AW.seq (AW.region ?_)
  refine qq Qt.assign ?_
  refine nl ?_
  refine AW.ret (endQ_ret (.cons (.tmp 2) .nil) ?_)
  simp only [retX, slotL, reduceIte, Nat.reduceEqDiff]
  congr 2
  simp only [stuckU]
  grind only
 have k2 := c2
 try simp only [cnd] at c2
 refine jd (AW.seq (AW.seq (AW.region ?_)))
 refine qq Qt.assign ?_
 refine nl ?_
 refine AW.block ?_
 refine AW.weak (L' := [.sl 3 (.v (iv (0 : Nat))), .rt 1 .box (T.s 9 1 fun k c => ([(T.v (iv u.Next), none), (T.v (iv u.Tick), none), (T.j, none), (T.j, none), (T.j, none), (T.j, none), (T.j, none), (T.j, none), (T.j, none)].getD (k * 9 + c) (T.j, none)).fst), .al 1 2 (.h base []), .al 1 3 (.h (base + 1) []), .al 1 4 (.h (base + 2) []), .al 1 5 (.h (base + 3) []), .al 1 6 (.h (base + 4) []), .al 1 7 (.h (base + 5) []), .al 1 8 (.h (base + 6) []), .rt base .ro (tr u.Progs), .rt (base + 1) .ro (tr u.Procs), .rt (base + 2) .ro (tr u.Opens), .rt (base + 3) .ro (tr u.Pipes), .rt (base + 4) .ro (tr u.Files), .rt (base + 5) .ro (tr u.Ready), .rt (base + 6) .ro (tr u.Out), .sl 1 (.p 1 [] 9 0 0)]) (Weak.sim ⟨rfl, ⟨_, rfl, T.sim_refl _⟩, ⟨rfl, rfl⟩, ⟨rfl, rfl⟩, ⟨rfl, rfl⟩, ⟨rfl, rfl⟩, ⟨rfl, rfl⟩, ⟨rfl, rfl⟩, ⟨rfl, rfl⟩, ⟨_, rfl, T.sim_refl _⟩, ⟨_, rfl, T.sim_refl _⟩, ⟨_, rfl, T.sim_refl _⟩, ⟨_, rfl, T.sim_refl _⟩, ⟨_, rfl, T.sim_refl _⟩, ⟨_, rfl, T.sim_refl _⟩, ⟨_, rfl, T.sim_refl _⟩, rfl, trivial⟩ rfl rfl) ?_
 refine AW.loop (fun i : AllInv (fun p => !(idleP p)) u.Procs => [.sl 3 (.v (iv i.k)), .rt 1 .box (T.s 9 1 fun k c => ([(T.v (iv u.Next), none), (T.v (iv u.Tick), none), (T.j, none), (T.j, none), (T.j, none), (T.j, none), (T.j, none), (T.j, none), (T.j, none)].getD (k * 9 + c) (T.j, none)).fst), .al 1 2 (.h base []), .al 1 3 (.h (base + 1) []), .al 1 4 (.h (base + 2) []), .al 1 5 (.h (base + 3) []), .al 1 6 (.h (base + 4) []), .al 1 7 (.h (base + 5) []), .al 1 8 (.h (base + 6) []), .rt base .ro (tr u.Progs), .rt (base + 1) .ro (tr u.Procs), .rt (base + 2) .ro (tr u.Opens), .rt (base + 3) .ro (tr u.Pipes), .rt (base + 4) .ro (tr u.Files), .rt (base + 5) .ro (tr u.Ready), .rt (base + 6) .ro (tr u.Out), .sl 1 (.p 1 [] 9 0 0)]) (fun i => u.Procs.length - i.k) ⟨0, Nat.zero_le _, rfl⟩ ?_
 intro i
 have hle := i.le
 refine AW.seq (AW.seq (AW.region ?_))
 refine qq Qt.move ?_
 refine nm ?_
 refine qq (fA fl38_3) ?_
 refine qq (Qt.load1 rfl rfl rfl ag33) ?_
 refine qq (Qt.lenH rfl rfl rfl sl33) ?_
 refine nm ?_
 refine qq (Qt.binOp rfl rfl rfl) ?_
 refine nl ?_
 refine AW.cond rfl (fun c3 => ?_) (fun c3 => ?_)
 ·have k3 := c3
  try simp only [cnd] at c3
  refine jd (AW.seq (AW.block (AW.seq (AW.region ?_))))
  refine qq (fA fl38_3) ?_
  refine qq (Qt.load1 rfl rfl rfl ag33) ?_
  refine nm ?_
  refine qq Qt.move ?_
  refine qq (Qt.indexAddr rfl rfl rfl rfl sl33 sz97 (by decide) (by first | omega | grind only)) ?_
  refine qq (fA fl97_2) ?_
  refine nm ?_
  refine qq (Qt.load1 rfl rfl rfl ag3) ?_
  refine qq (Qt.binOp rfl rfl rfl) ?_
  refine qq Qt.move ?_
  refine nm ?_
  apply AWL.cut 7
  ·intro Kg4
   refine AWL.splitF 27 rfl (fun g4 => ?_) (fun g4 => ?_)
   ·refine AWL.q rfl (nF g4) rfl (by decide) (fA fl38_3) ?_
    refine AWL.q rfl (nF g4) rfl (by decide) (Qt.load1 rfl rfl rfl ag33) ?_
    refine AWL.q rfl (nF g4) rfl (by decide) Qt.move ?_
    refine nm ?_
    refine AWL.q rfl (nF g4) rfl (by decide) (Qt.indexAddr rfl rfl rfl rfl sl33 sz97 (by decide) (by first | omega | grind only)) ?_
    refine AWL.q rfl (nF g4) rfl (by decide) (fA fl97_2) ?_
    refine AWL.q rfl (nF g4) rfl (by decide) (Qt.load1 rfl rfl rfl ag3) ?_
    refine nm ?_
    refine AWL.q rfl (nF g4) rfl (by decide) (Qt.binOp rfl rfl rfl) ?_
    exact AWL.weak (Weak.join (d := 34) (ds := [28, 29, 30, 31, 32, 33, 34]) rfl (ifF g4 _ undef) (by simp only [go_sem, Int.reduceToNat, Nat.reduceLT, reduceIte, Nat.reduceEqDiff, Nat.reduceAdd, Nat.reduceMul, Nat.reduceBEq, reduceCtorEq]; rfl)) Kg4
   ·refine AWL.out rfl (nT g4) rfl (by decide) ?_
    refine AWL.out rfl (nT g4) rfl (by decide) ?_
    refine AWL.out rfl (nT g4) rfl (by decide) ?_
    refine AWL.out rfl (nT g4) rfl (by decide) ?_
    refine nm ?_
    refine AWL.out rfl (nT g4) rfl (by decide) ?_
    refine AWL.out rfl (nT g4) rfl (by decide) ?_
    refine AWL.out rfl (nT g4) rfl (by decide) ?_
    exact AWL.weak (Weak.join (d := 34) (ds := [28, 29, 30, 31, 32, 33, 34]) rfl (ifT g4 undef _) (by simp only [go_sem, Int.reduceToNat, Nat.reduceLT, reduceIte, Nat.reduceEqDiff, Nat.reduceAdd, Nat.reduceMul, Nat.reduceBEq, reduceCtorEq])) Kg4
  refine qq (Qt.pickOr rfl rfl rfl) ?_
  refine nl ?_
  refine AW.cond rfl (fun c5 => ?_) (fun c5 => ?_)
  ·have k5 := c5
   try simp only [cnd] at c5
   have hS := i.stop En.dflt (by omega) (show (!(idleP (u.Procs.getD i.k En.dflt))) = false by simp only [idleP]; rw [k5]; rfl)
   refine AW.seq (AW.region ?_)
   refine qq Qt.assign ?_
   refine nl ?_
   refine AW.ret (endQ_ret (.cons (.tmp 2) .nil) ?_)
   simp only [retX, slotL, reduceIte, Nat.reduceEqDiff]
   congr 2
   simp only [stuckU]
   grind only
  have k5 := c5
  try simp only [cnd] at c5
  refine jd (AW.region ?_)
  refine qq Qt.move ?_
  refine nm ?_
  refine qq (Qt.binOp rfl rfl (by first | exact pbAdd (by omega) | rfl)) ?_
  refine qq Qt.assign ?_
  refine nl ?_
  refine ⟨⟨i.k + 1, by omega, i.next En.dflt (by omega) (by simp only [idleP]; rw [k5]; rfl)⟩, Weak.sim ⟨(by simp only [slotL, reduceIte, Nat.reduceEqDiff]; first | rfl | (rw [IntWalk.i64_in _ (by omega)]; rfl)), ⟨_, rfl, T.sim_refl _⟩, ⟨rfl, rfl⟩, ⟨rfl, rfl⟩, ⟨rfl, rfl⟩, ⟨rfl, rfl⟩, ⟨rfl, rfl⟩, ⟨rfl, rfl⟩, ⟨rfl, rfl⟩, ⟨_, rfl, T.sim_refl _⟩, ⟨_, rfl, T.sim_refl _⟩, ⟨_, rfl, T.sim_refl _⟩, ⟨_, rfl, T.sim_refl _⟩, ⟨_, rfl, T.sim_refl _⟩, ⟨_, rfl, T.sim_refl _⟩, ⟨_, rfl, T.sim_refl _⟩, rfl, trivial⟩ rfl rfl, ?_⟩
  show u.Procs.length - (i.k + 1) < u.Procs.length - i.k
  omega
 have k3 := c3
 try simp only [cnd] at c3
 have hF := i.full (by omega)
 refine AW.exit ?_
 dsimp only [thenQ, blockQ, reduceIte]
 refine AW.seq (AW.region ?_)
 refine qq Qt.assign ?_
 refine nl ?_
 refine AW.ret (endQ_ret (.cons (.tmp 2) .nil) ?_)
 simp only [retX, slotL, reduceIte, Nat.reduceEqDiff]
 congr 2
 simp only [stuckU]
 grind only
set_option maxHeartbeats 8000000 in
set_option maxRecDepth 10000 in
theorem FnExactStuck_con (a : DUnix) : Con Tryz.prog 5 [.g [.v (iv a.Next), .v (iv a.Tick), .h base [], .h (base + 1) [], .h (base + 2) [], .h (base + 3) [], .h (base + 4) [], .h (base + 5) [], .h (base + 6) []]] [.rt base .ro (tr a.Progs), .rt (base + 1) .ro (tr a.Procs), .rt (base + 2) .ro (tr a.Opens), .rt (base + 3) .ro (tr a.Pipes), .rt (base + 4) .ro (tr a.Files), .rt (base + 5) .ro (tr a.Ready), .rt (base + 6) .ro (tr a.Out)] (fun y _ => y = .v (.bool true)) := by
 refine Con.of_body Tryz.func5 rfl (by simp) ?_
 rw [Tryz.ntmps5]
 refine AW.seq (AW.region ?_)
 refine sp (Stp.boxB rfl (by decide) (by decide) rfl rfl rfl rfl) ?_
 refine nm ?_
 refine qq Qt.assign ?_
 refine nl ?_
 refine AW.seq (AW.region ?_)
 refine qq Qt.assign ?_
 refine nl ?_
 refine AW.seq (AW.region ?_)
 refine qq (Qt.loadG rfl rfl rfl ag29 sz29 (by decide)) ?_
 refine nm ?_
 refine qq Qt.move ?_
 refine cv Tryz.call10 rfl rfl (szUnix_con _ _ (by first | omega | (repeat (first | omega | apply szd_lo))) (by first | omega | (repeat (first | omega | apply szd_hi)))) ?_
 refine nm ?_
 refine qq Qt.assign ?_
 refine nl ?_
 refine AW.seq (AW.seq (AW.region ?_))
 refine qq Qt.move ?_
 refine qq (Qt.binOp rfl rfl rfl) ?_
 refine nl ?_
 refine AW.cond rfl (fun c1 => ?_) (fun c1 => ?_)
 ·have k1 := c1
  try simp only [cnd] at c1
  refine AW.seq (AW.region ?_)
  refine qq Qt.assign ?_
  refine nl ?_
  refine AW.ret (endQ_ret (.cons (.tmp 2) .nil) ?_)
  first | rfl | (exfalso; simp_all; done)
 have k1 := c1
 try simp only [cnd] at c1
 have hw : Mk.wt a ≤ 1048576 := by simp only [szd] at c1; omega
 refine jd (AW.seq (AW.region ?_))
 refine qq (Qt.loadG rfl rfl rfl ag29 sz29 (by decide)) ?_
 refine nm ?_
 refine sp (Stp.callR rfl (by decide) Tryz.call12 rfl rfl (toUnix_con _ (by first | omega | (simp only [Int.toNat_natCast]; omega) | (simp only [Mk.wt] at *; omega))) (nodup_of rfl) rfl rfl) ?_
 refine nm ?_
 refine cv Tryz.call17 rfl rfl (StuckS_con _ (unixB_of hw)) ?_
 refine nm ?_
 refine qq Qt.assign ?_
 refine nl ?_
 refine AW.seq (AW.region ?_)
 refine qq (Qt.loadG rfl rfl rfl ag29 sz29 (by decide)) ?_
 refine sp (Stp.callR rfl (by decide) Tryz.call12 rfl rfl (toUnix_con _ (by first | omega | (simp only [Int.toNat_natCast]; omega) | (simp only [Mk.wt] at *; omega))) (nodup_of rfl) rfl rfl) ?_
 refine nm ?_
 refine sp (Stp.alloc rfl (by decide) (by decide)) ?_
 refine nm ?_
 refine ss ?_
 refine nl ?_
 refine AW.seq (AW.region ?_)
 refine qq (Qt.loadG rfl rfl rfl ag38 sz38 (by decide)) ?_
 refine nm ?_
 refine cv Tryz.call18 rfl rfl (StuckI_con _ (unixB_of hw)) ?_
 refine nm ?_
 refine qq Qt.assign ?_
 refine nl ?_
 refine AW.seq (AW.seq (AW.region ?_))
 refine qq Qt.move ?_
 refine qq Qt.move ?_
 refine nm ?_
 refine qq (Qt.neB rfl rfl Tryz.underlying4) ?_
 refine nl ?_
 refine AW.cond rfl (fun c2 => (by exfalso; first | (simp at c2; done) | (simp only [decide_eq_true_eq] at c2; omega))) (fun c2 => ?_)
 refine jd (AW.seq (AW.seq ?_))
 refine AW.draw [0, 1, 4] rfl (by decide +kernel) ?_
 refine tk 0 rfl (Qt.loadG rfl rfl rfl ag38 sz38 (by decide)) ?_
 refine tk 1 rfl (Qt.loadG rfl rfl rfl ag29 sz29 (by decide)) ?_
 refine na ?_
 refine AWA.one 2 [0] [1] (by decide +kernel) rfl rfl rfl (by decide +kernel) (by decide +kernel) (by decide +kernel) (Stp.callR rfl (by decide) Tryz.call12 rfl rfl (toUnix_con _ (by first | omega | (simp only [Int.toNat_natCast]; omega) | (simp only [Mk.wt] at *; omega))) (nodup_of rfl) rfl rfl) ?_
 refine na ?_
 refine AWA.againE rfl rfl (by decide +kernel) (.on rfl rfl (Qt.loadG rfl rfl rfl ag38 sz38 (by decide))) rfl ?_
 refine na ?_
 refine AWA.one 3 [] [2, 0, 1] (by decide +kernel) rfl rfl rfl (by decide +kernel) (by decide +kernel) (by decide +kernel) (Stp.callV rfl (by decide) Tryz.call14 rfl rfl (eqUnix_con _ _)) ?_
 refine na ?_
 refine na ?_
 refine tk 4 rfl (Qt.notB rfl) ?_
 refine nz ?_
 refine AW.cond rfl (fun c3 => (by exfalso; first | (simp at c3; done) | (simp only [decide_eq_true_eq] at c3; omega))) (fun c3 => ?_)
 refine jd (AW.seq (AW.region ?_))
 refine qq Qt.assign ?_
 refine nl ?_
 refine AW.ret (endQ_ret (.cons (.tmp 2) .nil) ?_)
 first | rfl | (exfalso; simp_all; done)
end Go.Proofs.YtimmbmphfgnelaaGreat.VM
