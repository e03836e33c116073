/- Contracts of functions of the program. No conditions beyond those that each states. -/
import Derived.Test.YtimmbmphfgnelaaGreatCZ9
import Derived.Test.YtimmbmphfgnelaaGreatCZG
set_option linter.all false
namespace Go.Proofs.YtimmbmphfgnelaaGreat.VM
open Go Go.RowKit Go.Proofs
set_option maxHeartbeats 8000000 in
set_option maxRecDepth 10000 in
theorem l10Proc_con (u : DUnix) (p : DProc) (hb : unixB u) (hok : unixOk u = true) (hp : procOk u p = true) : Con Tryz.prog 75 [.g [.v (iv u.Next), .v (iv u.Tick), .h base [], .h (base + 1) [], .h (base + 2) [], .h (base + 3) [], .h (base + 4) [], .h (base + 5) [], .h (base + 6) []], .g [.v (iv p.Pid), .v (iv p.Parent), .v (iv p.State), .v (iv p.Prog), .v (iv p.Cpu.Pc), .h (base + 7) [], .h (base + 8) [], .h (base + 9) [], .v (iv p.Until), .v (iv p.Code)]] [.rt base .ro (tr u.Progs), .rt (base + 1) .ro (tr u.Procs), .rt (base + 2) .ro (tr u.Opens), .rt (base + 3) .ro (tr u.Pipes), .rt (base + 4) .ro (tr u.Files), .rt (base + 5) .ro (tr u.Ready), .rt (base + 6) .ro (tr u.Out), .rt (base + 7) .ro (tr p.Cpu.Regs), .rt (base + 8) .ro (tr p.Mem), .rt (base + 9) .ro (tr p.Fds)] (fun y _ => y = .v (.bool (soundS u p))) := by
 refine Con.of_body Tryz.func75 rfl (by simp) ?_
 rw [Tryz.ntmps75]
 refine AW.len (base + 1) [] rfl (by simp [Okp]) rfl (fun hl => ?_)
 refine AW.len (base + 2) [] rfl (by simp [Okp]) rfl (fun hlo => ?_)
 have hpb := hb.procs
 have hop := hb.opens
 have hU : (p.State = 4 ∨ p.State = 5) → 0 ≤ openAt u p.Until := fun h => (until_parts hp h).2
 have hOb : openAt u p.Until < u.Opens.length := (ixOf_bd _ _).2
 have hP1 := openX_pipe (p := p) hok
 have hP2 : pipeAt u (u.Opens.getD (openAt u p.Until).toNat En.dflt).Target < u.Pipes.length := (ixOf_bd _ _).2
 have hE1 := endsN_le u (u.Opens.getD (openAt u p.Until).toNat En.dflt).Target 3 u.Opens.length
 have hE2 := endsN_le u (u.Opens.getD (openAt u p.Until).toNat En.dflt).Target 4 u.Opens.length
 refine AW.seq (AW.region ?_)
 refine sp (Stp.boxB rfl (by decide) (by decide) rfl rfl rfl rfl) ?_
 refine nm ?_
 refine sp (Stp.boxB rfl (by decide) (by decide) rfl rfl rfl rfl) ?_
 refine nm ?_
 refine qq Qt.assign ?_
 refine nl ?_
 refine AW.seq (AW.region ?_)
 refine qq Qt.assign ?_
 refine nl ?_
 refine AW.seq (AW.region ?_)
 refine qq Qt.assign ?_
 refine nl ?_
 refine AW.seq (AW.seq (AW.region ?_))
 refine qq Qt.assign ?_
 refine nl ?_
 refine AW.block ?_
 refine AW.weak (L' := [.sl 7 (.v (iv 0)), .sl 5 (.v (iv (kidsN u p 0 : Nat))), .sl 6 (.v (iv (deadN u p 0 : Nat))), .rt 2 .box (T.s 9 1 fun k c => ([(T.v (iv u.Next), none), (T.v (iv u.Tick), none), (T.j, none), (T.j, none), (T.j, none), (T.j, none), (T.j, none), (T.j, none), (T.j, none)].getD (k * 9 + c) (T.j, none)).fst), .al 2 2 (.h base []), .al 2 3 (.h (base + 1) []), .al 2 4 (.h (base + 2) []), .al 2 5 (.h (base + 3) []), .al 2 6 (.h (base + 4) []), .al 2 7 (.h (base + 5) []), .al 2 8 (.h (base + 6) []), .rt base .ro (tr u.Progs), .rt (base + 1) .ro (tr u.Procs), .rt (base + 2) .ro (tr u.Opens), .rt (base + 3) .ro (tr u.Pipes), .rt (base + 4) .ro (tr u.Files), .rt (base + 5) .ro (tr u.Ready), .rt (base + 6) .ro (tr u.Out), .sl 2 (.p 2 [] 9 0 0), .rt 3 .box (T.s 10 1 fun k c => ([(T.v (iv p.Pid), none), (T.v (iv p.Parent), none), (T.v (iv p.State), none), (T.v (iv p.Prog), none), (T.v (iv p.Cpu.Pc), none), (T.j, none), (T.j, none), (T.j, none), (T.v (iv p.Until), none), (T.v (iv p.Code), none)].getD (k * 10 + c) (T.j, none)).fst), .al 3 5 (.h (base + 7) []), .al 3 6 (.h (base + 8) []), .al 3 7 (.h (base + 9) []), .rt (base + 7) .ro (tr p.Cpu.Regs), .rt (base + 8) .ro (tr p.Mem), .rt (base + 9) .ro (tr p.Fds), .sl 3 (.p 3 [] 10 0 0)]) (Weak.sim ⟨rfl, rfl, rfl, ⟨_, rfl, T.sim_refl _⟩, ⟨rfl, rfl⟩, ⟨rfl, rfl⟩, ⟨rfl, rfl⟩, ⟨rfl, rfl⟩, ⟨rfl, rfl⟩, ⟨rfl, rfl⟩, ⟨rfl, rfl⟩, ⟨_, rfl, T.sim_refl _⟩, ⟨_, rfl, T.sim_refl _⟩, ⟨_, rfl, T.sim_refl _⟩, ⟨_, rfl, T.sim_refl _⟩, ⟨_, rfl, T.sim_refl _⟩, ⟨_, rfl, T.sim_refl _⟩, ⟨_, rfl, T.sim_refl _⟩, rfl, ⟨_, rfl, T.sim_refl _⟩, ⟨rfl, rfl⟩, ⟨rfl, rfl⟩, ⟨rfl, rfl⟩, ⟨_, rfl, T.sim_refl _⟩, ⟨_, rfl, T.sim_refl _⟩, ⟨_, rfl, T.sim_refl _⟩, rfl, trivial⟩ rfl rfl) ?_
 refine AW.loop (fun i : KInv u.Procs.length => [.sl 7 (.v (iv i.k)), .sl 5 (.v (iv (kidsN u p i.k : Nat))), .sl 6 (.v (iv (deadN u p i.k : Nat))), .rt 2 .box (T.s 9 1 fun k c => ([(T.v (iv u.Next), none), (T.v (iv u.Tick), none), (T.j, none), (T.j, none), (T.j, none), (T.j, none), (T.j, none), (T.j, none), (T.j, none)].getD (k * 9 + c) (T.j, none)).fst), .al 2 2 (.h base []), .al 2 3 (.h (base + 1) []), .al 2 4 (.h (base + 2) []), .al 2 5 (.h (base + 3) []), .al 2 6 (.h (base + 4) []), .al 2 7 (.h (base + 5) []), .al 2 8 (.h (base + 6) []), .rt base .ro (tr u.Progs), .rt (base + 1) .ro (tr u.Procs), .rt (base + 2) .ro (tr u.Opens), .rt (base + 3) .ro (tr u.Pipes), .rt (base + 4) .ro (tr u.Files), .rt (base + 5) .ro (tr u.Ready), .rt (base + 6) .ro (tr u.Out), .sl 2 (.p 2 [] 9 0 0), .rt 3 .box (T.s 10 1 fun k c => ([(T.v (iv p.Pid), none), (T.v (iv p.Parent), none), (T.v (iv p.State), none), (T.v (iv p.Prog), none), (T.v (iv p.Cpu.Pc), none), (T.j, none), (T.j, none), (T.j, none), (T.v (iv p.Until), none), (T.v (iv p.Code), none)].getD (k * 10 + c) (T.j, none)).fst), .al 3 5 (.h (base + 7) []), .al 3 6 (.h (base + 8) []), .al 3 7 (.h (base + 9) []), .rt (base + 7) .ro (tr p.Cpu.Regs), .rt (base + 8) .ro (tr p.Mem), .rt (base + 9) .ro (tr p.Fds), .sl 3 (.p 3 [] 10 0 0)]) (fun i => u.Procs.length - i.k) ⟨0, Nat.zero_le _⟩ ?_
 intro i
 have hle := i.le
 have hk1 := kidsN_le u p i.k
 have hk2 := deadN_le u p i.k
 have hs1 := kidsN_succ u p i.k
 have hs2 := deadN_succ u p i.k
 refine AW.seq (AW.seq (AW.region ?_))
 refine qq Qt.move ?_
 refine nm ?_
 refine qq (fA fl38_3) ?_
 refine qq (Qt.load1 rfl rfl rfl ag33) ?_
 refine qq (Qt.lenH rfl rfl rfl sl33) ?_
 refine nm ?_
 refine qq (Qt.binOp rfl rfl rfl) ?_
 refine nl ?_
 refine AW.cond rfl (fun c1 => ?_) (fun c1 => ?_)
 ·have k1 := c1
  try simp only [cnd] at c1
  refine jd (AW.seq (AW.block (AW.seq ?_)))
  refine AW.draw [0, 1, 2, 3, 4, 5, 6, 7, 8] rfl (by decide +kernel) ?_
  refine tk 0 rfl (fA fl38_3) ?_
  refine tk 1 rfl (Qt.load1 rfl rfl rfl ag33) ?_
  refine na ?_
  refine tk 2 rfl Qt.move ?_
  refine tk 3 rfl (Qt.indexAddr rfl rfl rfl rfl sl33 sz97 (by decide) (by first | omega | grind only)) ?_
  refine tk 4 rfl (fA fl97_1) ?_
  refine na ?_
  refine tk 5 rfl (Qt.load1 rfl rfl rfl ag3) ?_
  refine tk 6 rfl (fA fl97_0) ?_
  refine tk 7 rfl (Qt.load1 rfl rfl rfl ag3) ?_
  refine na ?_
  refine tk 8 rfl (Qt.binOp rfl rfl rfl) ?_
  refine nz ?_
  refine AW.cond rfl (fun c2 => ?_) (fun c2 => ?_)
  ·have k2 := c2
   try simp only [cnd] at c2
   refine AW.seq (AW.region ?_)
   refine qq Qt.move ?_
   refine qq (Qt.binOp rfl rfl (by first | exact pbAdd (by omega) | rfl)) ?_
   refine nm ?_
   refine qq Qt.assign ?_
   refine nl ?_
   refine AW.seq (AW.region ?_)
   refine qq (fA fl38_3) ?_
   refine qq (Qt.load1 rfl rfl rfl ag33) ?_
   refine nm ?_
   refine qq Qt.move ?_
   refine qq (Qt.indexAddr rfl rfl rfl rfl sl33 sz97 (by decide) (by first | omega | grind only)) ?_
   refine qq (fA fl97_2) ?_
   refine nm ?_
   refine qq (Qt.load1 rfl rfl rfl ag3) ?_
   refine qq (Qt.binOp rfl rfl rfl) ?_
   refine nl ?_
   refine AW.cond rfl (fun c3 => ?_) (fun c3 => ?_)
   ·have k3 := c3
    try simp only [cnd] at c3
    refine AW.region ?_
    refine qq Qt.move ?_
    refine nm ?_
    refine qq (Qt.binOp rfl rfl (by first | exact pbAdd (by omega) | rfl)) ?_
    refine qq Qt.assign ?_
    refine nl ?_
    refine AW.region ?_
    refine qq Qt.move ?_
    refine nm ?_
    refine qq (Qt.binOp rfl rfl (by first | exact pbAdd (by omega) | rfl)) ?_
    refine qq Qt.assign ?_
    refine nl ?_
    refine ⟨⟨i.k + 1, by omega⟩, Weak.sim ⟨(by simp only [slotL, reduceIte, Nat.reduceEqDiff]; first | rfl | (rw [IntWalk.i64_in _ (by omega)]; rfl)), by simp only [slotL, reduceIte, Nat.reduceEqDiff]; congr 2; rw [hs1]; grind only, by simp only [slotL, reduceIte, Nat.reduceEqDiff]; congr 2; rw [hs2]; grind only, ⟨_, rfl, T.sim_refl _⟩, ⟨rfl, rfl⟩, ⟨rfl, rfl⟩, ⟨rfl, rfl⟩, ⟨rfl, rfl⟩, ⟨rfl, rfl⟩, ⟨rfl, rfl⟩, ⟨rfl, rfl⟩, ⟨_, rfl, T.sim_refl _⟩, ⟨_, rfl, T.sim_refl _⟩, ⟨_, rfl, T.sim_refl _⟩, ⟨_, rfl, T.sim_refl _⟩, ⟨_, rfl, T.sim_refl _⟩, ⟨_, rfl, T.sim_refl _⟩, ⟨_, rfl, T.sim_refl _⟩, rfl, ⟨_, rfl, T.sim_refl _⟩, ⟨rfl, rfl⟩, ⟨rfl, rfl⟩, ⟨rfl, rfl⟩, ⟨_, rfl, T.sim_refl _⟩, ⟨_, rfl, T.sim_refl _⟩, ⟨_, rfl, T.sim_refl _⟩, rfl, trivial⟩ rfl rfl, ?_⟩
    show u.Procs.length - (i.k + 1) < u.Procs.length - i.k
    omega
   have k3 := c3
   try simp only [cnd] at c3
   refine jd (AW.region ?_)
   refine qq Qt.move ?_
   refine nm ?_
   refine qq (Qt.binOp rfl rfl (by first | exact pbAdd (by omega) | rfl)) ?_
   refine qq Qt.assign ?_
   refine nl ?_
   refine ⟨⟨i.k + 1, by omega⟩, Weak.sim ⟨(by simp only [slotL, reduceIte, Nat.reduceEqDiff]; first | rfl | (rw [IntWalk.i64_in _ (by omega)]; rfl)), by simp only [slotL, reduceIte, Nat.reduceEqDiff]; congr 2; rw [hs1]; grind only, by simp only [slotL, reduceIte, Nat.reduceEqDiff]; congr 2; rw [hs2]; grind only, ⟨_, rfl, T.sim_refl _⟩, ⟨rfl, rfl⟩, ⟨rfl, rfl⟩, ⟨rfl, rfl⟩, ⟨rfl, rfl⟩, ⟨rfl, rfl⟩, ⟨rfl, rfl⟩, ⟨rfl, rfl⟩, ⟨_, rfl, T.sim_refl _⟩, ⟨_, rfl, T.sim_refl _⟩, ⟨_, rfl, T.sim_refl _⟩, ⟨_, rfl, T.sim_refl _⟩, ⟨_, rfl, T.sim_refl _⟩, ⟨_, rfl, T.sim_refl _⟩, ⟨_, rfl, T.sim_refl _⟩, rfl, ⟨_, rfl, T.sim_refl _⟩, ⟨rfl, rfl⟩, ⟨rfl, rfl⟩, ⟨rfl, rfl⟩, ⟨_, rfl, T.sim_refl _⟩, ⟨_, rfl, T.sim_refl _⟩, ⟨_, rfl, T.sim_refl _⟩, rfl, trivial⟩ rfl rfl, ?_⟩
   show u.Procs.length - (i.k + 1) < u.Procs.length - i.k
   omega
  have k2 := c2
  try simp only [cnd] at c2
  refine jd (AW.region ?_)
  refine qq Qt.move ?_
  refine nm ?_
  refine qq (Qt.binOp rfl rfl (by first | exact pbAdd (by omega) | rfl)) ?_
  refine qq Qt.assign ?_
  refine nl ?_
  refine ⟨⟨i.k + 1, by omega⟩, Weak.sim ⟨(by simp only [slotL, reduceIte, Nat.reduceEqDiff]; first | rfl | (rw [IntWalk.i64_in _ (by omega)]; rfl)), by simp only [slotL, reduceIte, Nat.reduceEqDiff]; congr 2; rw [hs1]; grind only, by simp only [slotL, reduceIte, Nat.reduceEqDiff]; congr 2; rw [hs2]; grind only, ⟨_, rfl, T.sim_refl _⟩, ⟨rfl, rfl⟩, ⟨rfl, rfl⟩, ⟨rfl, rfl⟩, ⟨rfl, rfl⟩, ⟨rfl, rfl⟩, ⟨rfl, rfl⟩, ⟨rfl, rfl⟩, ⟨_, rfl, T.sim_refl _⟩, ⟨_, rfl, T.sim_refl _⟩, ⟨_, rfl, T.sim_refl _⟩, ⟨_, rfl, T.sim_refl _⟩, ⟨_, rfl, T.sim_refl _⟩, ⟨_, rfl, T.sim_refl _⟩, ⟨_, rfl, T.sim_refl _⟩, rfl, ⟨_, rfl, T.sim_refl _⟩, ⟨rfl, rfl⟩, ⟨rfl, rfl⟩, ⟨rfl, rfl⟩, ⟨_, rfl, T.sim_refl _⟩, ⟨_, rfl, T.sim_refl _⟩, ⟨_, rfl, T.sim_refl _⟩, rfl, trivial⟩ rfl rfl, ?_⟩
  show u.Procs.length - (i.k + 1) < u.Procs.length - i.k
  omega
 have k1 := c1
 try simp only [cnd] at c1
 refine AW.exit ?_
 dsimp only [thenQ, blockQ, reduceIte]
 refine AW.seq (AW.seq (AW.region ?_))
 refine qq (fA fl97_2) ?_
 refine nm ?_
 refine qq (Qt.load1 rfl rfl rfl ag3) ?_
 refine nl ?_
 refine AW.block (AW.seq (AW.region ?_))
 refine qq (Qt.binOp rfl rfl rfl) ?_
 refine qq Qt.assign ?_
 refine nl ?_
 refine AW.cond rfl (fun c4 => ?_) (fun c4 => ?_)
 ·have k4 := c4
  try simp only [cnd] at c4
  refine AW.seq (AW.region ?_)
  refine qq Qt.move ?_
  refine nm ?_
  refine qq (Qt.binOp rfl rfl rfl) ?_
  refine qq Qt.move ?_
  apply AWL.cut 2
  ·intro Kg5
   refine AWL.split 45 rfl (fun g5 => ?_) (fun g5 => ?_)
   ·refine AWL.q rfl g5 rfl (by decide) Qt.move ?_
    refine nm ?_
    refine AWL.q rfl g5 rfl (by decide) (Qt.binOp rfl rfl rfl) ?_
    exact AWL.weak (Weak.join (d := 47) (ds := [46, 47]) rfl (ifT g5 _ undef) (by simp only [go_sem, Int.reduceToNat, Nat.reduceLT, reduceIte, Nat.reduceEqDiff, Nat.reduceAdd, Nat.reduceMul, Nat.reduceBEq, reduceCtorEq]; rfl)) Kg5
   ·refine AWL.out rfl g5 rfl (by decide) ?_
    refine AWL.out rfl g5 rfl (by decide) ?_
    exact AWL.weak (Weak.join (d := 47) (ds := [46, 47]) rfl (ifF g5 undef _) (by simp only [go_sem, Int.reduceToNat, Nat.reduceLT, reduceIte, Nat.reduceEqDiff, Nat.reduceAdd, Nat.reduceMul, Nat.reduceBEq, reduceCtorEq])) Kg5
  refine qq (Qt.pickAnd rfl rfl rfl) ?_
  refine qq Qt.assign ?_
  refine nl ?_
  refine AW.ret (endQ_ret (.cons (.tmp 4) .nil) ?_)
  simp only [retX, slotL, reduceIte, Nat.reduceEqDiff]
  congr 2
  simp only [soundS, waitsP, endS, openX, pipeX]
  grind only
 have k4 := c4
 try simp only [cnd] at c4
 refine AW.seq (AW.region ?_)
 refine qq (Qt.binOp rfl rfl rfl) ?_
 refine nm ?_
 refine qq Qt.assign ?_
 refine nl ?_
 refine AW.cond rfl (fun c6 => ?_) (fun c6 => ?_)
 ·have k6 := c6
  try simp only [cnd] at c6
  refine AW.seq (AW.region ?_)
  refine qq Qt.move ?_
  refine qq (Qt.binOp rfl rfl rfl) ?_
  refine nm ?_
  refine qq Qt.assign ?_
  refine nl ?_
  refine AW.ret (endQ_ret (.cons (.tmp 4) .nil) ?_)
  simp only [retX, slotL, reduceIte, Nat.reduceEqDiff]
  congr 2
  simp only [soundS, waitsP, endS, openX, pipeX]
  grind only
 have k6 := c6
 try simp only [cnd] at c6
 refine AW.seq (AW.seq (AW.region ?_))
 refine qq (Qt.binOp rfl rfl rfl) ?_
 refine qq Qt.assign ?_
 refine nl ?_
 refine AW.cond rfl (fun c7 => ?_) (fun c7 => ?_)
 ·have k7 := c7
  try simp only [cnd] at c7
  refine jd ?_
  refine AW.condT rfl k7 ?_
  refine AW.seq ?_
  refine AW.draw [0, 1, 2, 3, 4, 6, 7] rfl (by decide +kernel) ?_
  refine tk 0 rfl (fA fl38_4) ?_
  refine na ?_
  refine tk 1 rfl (Qt.load1 rfl rfl rfl ag34) ?_
  refine tk 2 rfl (Qt.loadG rfl rfl rfl ag38 sz38 (by decide)) ?_
  refine tk 3 rfl (fA fl97_7) ?_
  refine na ?_
  refine tk 4 rfl (Qt.load1 rfl rfl rfl ag3) ?_
  apply AWA.cutS #[true, true, true, true, true, true, true, true, true, false] [0, 1, 6, 7]
  ·intro K17_0
   refine AWA.anyL [5, 8] (by decide +kernel) rfl ⟨?_, ?_, trivial⟩
   ·refine AWA.arm 5 [0, 1] [4, 2, 3] rfl rfl rfl (by decide +kernel) (by decide +kernel) (by decide +kernel) (Stp.callV rfl (by decide) Tryz.call165 rfl rfl (l6Open_con u _)) ?_
    refine na ?_
    refine AWA.againE rfl rfl (by decide +kernel) (.on rfl rfl (fA fl38_4)) rfl ?_
    refine AWA.againE rfl rfl (by decide +kernel) (.on rfl rfl (Qt.load1 rfl rfl rfl ag34)) rfl ?_
    refine na ?_
    refine AWA.take 6 rfl rfl rfl (by decide +kernel) (.on rfl rfl (Qt.indexAddr rfl rfl rfl rfl sl34 sz109 (by decide) (by first | omega | grind only))) ?_
    refine AWA.take 7 rfl rfl rfl (by decide +kernel) (.on rfl rfl (Qt.loadG rfl rfl rfl ag109 sz109 (by decide))) ?_
    refine AWA.one 8 [0, 1, 6, 7] [] (by decide +kernel) rfl rfl rfl (by decide +kernel) (by decide +kernel) (by decide +kernel) (Stp.alloc rfl (by decide) (by decide)) ?_
    refine na ?_
    refine AWA.againE rfl rfl (by decide +kernel) (.on rfl rfl (fA fl38_4)) rfl ?_
    refine AWA.againE rfl rfl (by decide +kernel) (.on rfl rfl (Qt.load1 rfl rfl rfl ag34)) rfl ?_
    refine AWA.againE rfl rfl (by decide +kernel) (.on rfl rfl (Qt.indexAddr rfl rfl rfl rfl sl34 sz109 (by decide) (by first | omega | grind only))) rfl ?_
    refine na ?_
    refine AWA.againE rfl rfl (by decide +kernel) (.on rfl rfl (Qt.loadG rfl rfl rfl ag109 sz109 (by decide))) rfl ?_
    refine na ?_
    exact AWA.use (by decide +kernel) (by decide +kernel) Weak.refl K17_0
   ·refine AWA.arm 8 [0, 1, 2, 3, 4] [] rfl rfl rfl (by decide +kernel) (by decide +kernel) (by decide +kernel) (Stp.alloc rfl (by decide) (by decide)) ?_
    refine na ?_
    refine AWA.againE rfl rfl (by decide +kernel) (.on rfl rfl (fA fl38_4)) rfl ?_
    refine AWA.againE rfl rfl (by decide +kernel) (.on rfl rfl (Qt.load1 rfl rfl rfl ag34)) rfl ?_
    refine AWA.againE rfl rfl (by decide +kernel) (.on rfl rfl (Qt.loadG rfl rfl rfl ag38 sz38 (by decide))) rfl ?_
    refine na ?_
    refine AWA.againE rfl rfl (by decide +kernel) (.on rfl rfl (fA fl97_7)) rfl ?_
    refine AWA.againE rfl rfl (by decide +kernel) (.on rfl rfl (Qt.load1 rfl rfl rfl ag3)) rfl ?_
    refine na ?_
    refine AWA.one 5 [0, 1] [4, 2, 3] (by decide +kernel) rfl rfl rfl (by decide +kernel) (by decide +kernel) (by decide +kernel) (Stp.callV rfl (by decide) Tryz.call165 rfl rfl (l6Open_con u _)) ?_
    refine na ?_
    refine AWA.againE rfl rfl (by decide +kernel) (.on rfl rfl (fA fl38_4)) rfl ?_
    refine AWA.againE rfl rfl (by decide +kernel) (.on rfl rfl (Qt.load1 rfl rfl rfl ag34)) rfl ?_
    refine na ?_
    refine AWA.take 6 rfl rfl rfl (by decide +kernel) (.on rfl rfl (Qt.indexAddr rfl rfl rfl rfl sl34 sz109 (by decide) (by first | omega | grind only))) ?_
    refine AWA.take 7 rfl rfl rfl (by decide +kernel) (.on rfl rfl (Qt.loadG rfl rfl rfl ag109 sz109 (by decide))) ?_
    refine na ?_
    exact AWA.use (by decide +kernel) (by decide +kernel) (Weak.sim (by repeat (first | exact trivial | refine ⟨rfl, ?_⟩ | refine ⟨⟨_, rfl, T.sim_refl _⟩, ?_⟩ | refine ⟨⟨rfl, rfl⟩, ?_⟩)) rfl rfl) K17_0
  ·refine AWA.one 9 [] [8, 7, 6, 5, 4, 3, 2, 1, 0] (by decide +kernel) rfl rfl rfl (by decide +kernel) (by decide +kernel) (by decide +kernel) (by first | exact Stp.storeA rfl rfl rfl rfl (by decide) rfl | exact Stp.store rfl rfl (by simp) rfl rfl rfl (by decide) rfl) ?_
   refine na ?_
   refine nz ?_
   refine AW.seq (AW.region ?_)
   refine qq Qt.assign ?_
   refine nl ?_
   refine AW.seq (AW.region ?_)
   refine qq Qt.assign ?_
   refine nl ?_
   refine AW.seq (AW.region ?_)
   refine qq Qt.assign ?_
   refine nl ?_
   refine AW.seq (AW.seq (AW.region ?_))
   refine qq (fA fl97_2) ?_
   refine nm ?_
   refine qq (Qt.load1 rfl rfl rfl ag3) ?_
   refine qq (Qt.binOp rfl rfl rfl) ?_
   refine nl ?_
   refine AW.cond rfl (fun c8 => ?_) (fun c8 => ?_)
   ·have k8 := c8
    try simp only [cnd] at c8
    refine AW.seq (AW.region ?_)
    refine qq Qt.assign ?_
    refine nl ?_
    refine AW.seq (AW.region ?_)
    refine qq Qt.assign ?_
    refine nl ?_
    refine AW.region ?_
    refine qq Qt.assign ?_
    refine nl ?_
    refine AW.seq ?_
    refine AW.draw [0, 1, 2, 3, 5, 6, 7, 8, 9, 10, 11, 12, 13, 14, 15, 16, 18, 19, 20, 21, 22, 23, 24, 25, 26, 27, 28, 29, 31, 32, 33] rfl (by decide +kernel) ?_
    refine tk 0 rfl (fA fl97_6) ?_
    refine na ?_
    refine tk 1 rfl (Qt.load1 rfl rfl rfl ag27) ?_
    refine tk 2 rfl (fA fl109_0) ?_
    refine tk 3 rfl (Qt.load1 rfl rfl rfl ag3) ?_
    refine na ?_
    refine AWA.one 4 [] [3, 1, 2, 0] (by decide +kernel) rfl rfl rfl (by decide +kernel) (by decide +kernel) (by decide +kernel) (Stp.callV rfl (by decide) Tryz.call167 rfl rfl (l6Has_con _ _)) ?_
    refine na ?_
    refine na ?_
    refine tk 5 rfl Qt.move ?_
    refine AWA.split 72 rfl (fun g9 => ?_) (fun g9 => ?_)
    ·refine tg 6 rfl g9 (fA fl109_1) ?_
     refine tg 7 rfl g9 (Qt.load1 rfl rfl rfl ag3) ?_
     refine na ?_
     refine tg 8 rfl g9 Qt.move ?_
     refine tg 9 rfl g9 (Qt.binOp rfl rfl rfl) ?_
     refine tk 10 rfl (Qt.pickT rfl g9) ?_
     refine na ?_
     refine tk 11 rfl Qt.move ?_
     refine AWA.split 78 rfl (fun g10 => ?_) (fun g10 => ?_)
     ·refine tg 12 rfl g10 (fA fl38_5) ?_
      refine tg 13 rfl g10 (Qt.load1 rfl rfl rfl ag35) ?_
      refine na ?_
      refine tg 14 rfl g10 (Qt.loadG rfl rfl rfl ag38 sz38 (by decide)) ?_
      refine tg 15 rfl g10 (fA fl109_2) ?_
      refine tg 16 rfl g10 (Qt.load1 rfl rfl rfl ag3) ?_
      refine na ?_
      refine tg 22 rfl g10 Qt.move ?_
      refine AWA.one 17 [12, 13, 22] [16, 14, 11, 15, 10, 5, 9, 4, 8, 7, 3, 1, 6, 2, 0] (by decide +kernel) rfl rfl g10 (by decide +kernel) (by decide +kernel) (by decide +kernel) (Stp.callV rfl (by decide) Tryz.call202 rfl rfl (l6Pipe_con u _)) ?_
      refine na ?_
      refine AWA.againE rfl rfl (by decide +kernel) (.on rfl g10 (fA fl38_5)) rfl ?_
      refine AWA.againE rfl rfl (by decide +kernel) (.on rfl g10 (Qt.load1 rfl rfl rfl ag35)) rfl ?_
      refine AWA.againE rfl rfl (by decide +kernel) (.on rfl g10 Qt.move) rfl ?_
      refine na ?_
      refine tg 18 rfl g10 (Qt.indexAddr rfl rfl rfl rfl sl35 sz128 (by decide) (by first | omega | grind only)) ?_
      refine tg 19 rfl g10 (fA fl128_1) ?_
      refine tg 20 rfl g10 (Qt.load1 rfl rfl rfl ag27) ?_
      refine na ?_
      refine tg 21 rfl g10 (Qt.lenH rfl rfl rfl sl27) ?_
      refine tg 23 rfl g10 (Qt.binOp rfl rfl rfl) ?_
      refine tk 24 rfl (Qt.pickT rfl g10) ?_
      refine na ?_
      refine tk 25 rfl Qt.move ?_
      refine AWA.split 92 rfl (fun g11 => ?_) (fun g11 => ?_)
      ·refine tg 26 rfl g11 (Qt.loadG rfl rfl rfl ag38 sz38 (by decide)) ?_
       refine tg 27 rfl g11 (fA fl109_2) ?_
       refine na ?_
       refine tg 28 rfl g11 (Qt.load1 rfl rfl rfl ag3) ?_
       refine tg 29 rfl g11 Qt.move ?_
       refine AWA.one 30 [] [29, 28, 26, 25, 27, 24, 17, 23, 11, 16, 14, 22, 21, 10, 5, 15, 20, 9, 4, 19, 8, 7, 3, 1, 18, 6, 2, 0, 13, 12] (by decide +kernel) rfl rfl g11 (by decide +kernel) (by decide +kernel) (by decide +kernel) (Stp.callV rfl (by decide) Tryz.call169 rfl rfl (l6Ends_con u _ _ hb)) ?_
       refine na ?_
       refine na ?_
       refine tg 31 rfl g11 (Qt.binOp rfl rfl rfl) ?_
       refine tk 32 rfl (Qt.pickT rfl g11) ?_
       refine tk 33 rfl Qt.assign ?_
       refine na ?_
       refine nz ?_
       refine AW.ret (endQ_ret (.cons (.tmp 4) .nil) ?_)
       simp only [retX, slotL, reduceIte, Nat.reduceEqDiff]
       congr 2
       simp only [soundS, waitsP, endS, openX, pipeX]
       grind only
      refine tf 26 g11 ?_
      refine tf 27 g11 ?_
      refine tf 28 g11 ?_
      refine na ?_
      refine tf 29 g11 ?_
      refine AWA.oneOff 30 [] [29, 28, 26, 25, 27, 24, 17, 23, 11, 16, 14, 22, 21, 10, 5, 15, 20, 9, 4, 19, 8, 7, 3, 1, 18, 6, 2, 0, 13, 12] (by decide +kernel) rfl rfl g11 (by decide +kernel) (by decide +kernel) (by decide +kernel) rfl (by decide) ?_
      refine na ?_
      refine na ?_
      refine tf 31 g11 ?_
      refine tk 32 rfl (Qt.pickF rfl g11) ?_
      refine tk 33 rfl Qt.assign ?_
      refine na ?_
      refine nz ?_
      refine AW.ret (endQ_ret (.cons (.tmp 4) .nil) ?_)
      simp only [retX, slotL, reduceIte, Nat.reduceEqDiff]
      congr 2
      simp only [soundS, waitsP, endS, openX, pipeX]
      grind only
     refine tf 12 g10 ?_
     refine tf 13 g10 ?_
     refine tf 14 g10 ?_
     refine na ?_
     refine tf 15 g10 ?_
     refine tf 16 g10 ?_
     refine tf 22 g10 ?_
     refine na ?_
     refine AWA.oneOff 17 [12, 13, 22] [16, 14, 11, 15, 10, 5, 9, 4, 8, 7, 3, 1, 6, 2, 0] (by decide +kernel) rfl rfl g10 (by decide +kernel) (by decide +kernel) (by decide +kernel) rfl (by decide) ?_
     refine na ?_
     refine AWA.againE rfl rfl (by decide +kernel) (.off rfl g10) rfl ?_
     refine AWA.againE rfl rfl (by decide +kernel) (.off rfl g10) rfl ?_
     refine AWA.againE rfl rfl (by decide +kernel) (.off rfl g10) rfl ?_
     refine na ?_
     refine tf 18 g10 ?_
     refine tf 19 g10 ?_
     refine tf 20 g10 ?_
     refine na ?_
     refine tf 21 g10 ?_
     refine tf 23 g10 ?_
     refine tk 24 rfl (Qt.pickF rfl g10) ?_
     refine na ?_
     refine tk 25 rfl Qt.move ?_
     refine AWA.split 92 rfl (fun g12 => ?_) (fun g12 => ?_)
     ·refine tg 26 rfl g12 (Qt.loadG rfl rfl rfl ag38 sz38 (by decide)) ?_
      refine tg 27 rfl g12 (fA fl109_2) ?_
      refine na ?_
      refine tg 28 rfl g12 (Qt.load1 rfl rfl rfl ag3) ?_
      refine tg 29 rfl g12 Qt.move ?_
      refine AWA.one 30 [] [29, 28, 26, 25, 27, 24, 17, 23, 11, 16, 14, 22, 21, 10, 5, 15, 20, 9, 4, 19, 8, 7, 3, 1, 18, 6, 2, 0, 13, 12] (by decide +kernel) rfl rfl g12 (by decide +kernel) (by decide +kernel) (by decide +kernel) (Stp.callV rfl (by decide) Tryz.call169 rfl rfl (l6Ends_con u _ _ hb)) ?_
      refine na ?_
      refine na ?_
      refine tg 31 rfl g12 (Qt.binOp rfl rfl rfl) ?_
      refine tk 32 rfl (Qt.pickT rfl g12) ?_
      refine tk 33 rfl Qt.assign ?_
      refine na ?_
      refine nz ?_
      refine AW.ret (endQ_ret (.cons (.tmp 4) .nil) ?_)
      simp only [retX, slotL, reduceIte, Nat.reduceEqDiff]
      congr 2
      simp only [soundS, waitsP, endS, openX, pipeX]
      grind only
     refine tf 26 g12 ?_
     refine tf 27 g12 ?_
     refine tf 28 g12 ?_
     refine na ?_
     refine tf 29 g12 ?_
     refine AWA.oneOff 30 [] [29, 28, 26, 25, 27, 24, 17, 23, 11, 16, 14, 22, 21, 10, 5, 15, 20, 9, 4, 19, 8, 7, 3, 1, 18, 6, 2, 0, 13, 12] (by decide +kernel) rfl rfl g12 (by decide +kernel) (by decide +kernel) (by decide +kernel) rfl (by decide) ?_
     refine na ?_
     refine na ?_
     refine tf 31 g12 ?_
     refine tk 32 rfl (Qt.pickF rfl g12) ?_
     refine tk 33 rfl Qt.assign ?_
     refine na ?_
     refine nz ?_
     refine AW.ret (endQ_ret (.cons (.tmp 4) .nil) ?_)
     simp only [retX, slotL, reduceIte, Nat.reduceEqDiff]
     congr 2
     simp only [soundS, waitsP, endS, openX, pipeX]
     grind only
    refine tf 6 g9 ?_
    refine tf 7 g9 ?_
    refine tf 8 g9 ?_
    refine na ?_
    refine tf 9 g9 ?_
    refine tk 10 rfl (Qt.pickF rfl g9) ?_
    refine tk 11 rfl Qt.move ?_
    refine na ?_
    refine AWA.split 78 rfl (fun g13 => ?_) (fun g13 => ?_)
    ·refine tg 12 rfl g13 (fA fl38_5) ?_
     refine tg 13 rfl g13 (Qt.load1 rfl rfl rfl ag35) ?_
     refine tg 14 rfl g13 (Qt.loadG rfl rfl rfl ag38 sz38 (by decide)) ?_
     refine na ?_
     refine tg 15 rfl g13 (fA fl109_2) ?_
     refine tg 16 rfl g13 (Qt.load1 rfl rfl rfl ag3) ?_
     refine tg 22 rfl g13 Qt.move ?_
     refine na ?_
     refine AWA.one 17 [12, 13, 22] [16, 14, 11, 15, 10, 5, 9, 4, 8, 7, 3, 1, 6, 2, 0] (by decide +kernel) rfl rfl g13 (by decide +kernel) (by decide +kernel) (by decide +kernel) (Stp.callV rfl (by decide) Tryz.call202 rfl rfl (l6Pipe_con u _)) ?_
     refine na ?_
     refine AWA.againE rfl rfl (by decide +kernel) (.on rfl g13 (fA fl38_5)) rfl ?_
     refine AWA.againE rfl rfl (by decide +kernel) (.on rfl g13 (Qt.load1 rfl rfl rfl ag35)) rfl ?_
     refine AWA.againE rfl rfl (by decide +kernel) (.on rfl g13 Qt.move) rfl ?_
     refine na ?_
     refine tg 18 rfl g13 (Qt.indexAddr rfl rfl rfl rfl sl35 sz128 (by decide) (by first | omega | grind only)) ?_
     refine tg 19 rfl g13 (fA fl128_1) ?_
     refine tg 20 rfl g13 (Qt.load1 rfl rfl rfl ag27) ?_
     refine na ?_
     refine tg 21 rfl g13 (Qt.lenH rfl rfl rfl sl27) ?_
     refine tg 23 rfl g13 (Qt.binOp rfl rfl rfl) ?_
     refine tk 24 rfl (Qt.pickT rfl g13) ?_
     refine na ?_
     refine tk 25 rfl Qt.move ?_
     refine AWA.split 92 rfl (fun g14 => ?_) (fun g14 => ?_)
     ·refine tg 26 rfl g14 (Qt.loadG rfl rfl rfl ag38 sz38 (by decide)) ?_
      refine tg 27 rfl g14 (fA fl109_2) ?_
      refine na ?_
      refine tg 28 rfl g14 (Qt.load1 rfl rfl rfl ag3) ?_
      refine tg 29 rfl g14 Qt.move ?_
      refine AWA.one 30 [] [29, 28, 26, 25, 27, 24, 17, 23, 11, 16, 14, 22, 21, 10, 5, 15, 20, 9, 4, 19, 8, 7, 3, 1, 18, 6, 2, 0, 13, 12] (by decide +kernel) rfl rfl g14 (by decide +kernel) (by decide +kernel) (by decide +kernel) (Stp.callV rfl (by decide) Tryz.call169 rfl rfl (l6Ends_con u _ _ hb)) ?_
      refine na ?_
      refine na ?_
      refine tg 31 rfl g14 (Qt.binOp rfl rfl rfl) ?_
      refine tk 32 rfl (Qt.pickT rfl g14) ?_
      refine tk 33 rfl Qt.assign ?_
      refine na ?_
      refine nz ?_
      refine AW.ret (endQ_ret (.cons (.tmp 4) .nil) ?_)
      simp only [retX, slotL, reduceIte, Nat.reduceEqDiff]
      congr 2
      simp only [soundS, waitsP, endS, openX, pipeX]
      grind only
     refine tf 26 g14 ?_
     refine tf 27 g14 ?_
     refine tf 28 g14 ?_
     refine na ?_
     refine tf 29 g14 ?_
     refine AWA.oneOff 30 [] [29, 28, 26, 25, 27, 24, 17, 23, 11, 16, 14, 22, 21, 10, 5, 15, 20, 9, 4, 19, 8, 7, 3, 1, 18, 6, 2, 0, 13, 12] (by decide +kernel) rfl rfl g14 (by decide +kernel) (by decide +kernel) (by decide +kernel) rfl (by decide) ?_
     refine na ?_
     refine na ?_
     refine tf 31 g14 ?_
     refine tk 32 rfl (Qt.pickF rfl g14) ?_
     refine tk 33 rfl Qt.assign ?_
     refine na ?_
     refine nz ?_
     refine AW.ret (endQ_ret (.cons (.tmp 4) .nil) ?_)
     simp only [retX, slotL, reduceIte, Nat.reduceEqDiff]
     congr 2
     simp only [soundS, waitsP, endS, openX, pipeX]
     grind only
    refine tf 12 g13 ?_
    refine tf 13 g13 ?_
    refine tf 14 g13 ?_
    refine na ?_
    refine tf 15 g13 ?_
    refine tf 16 g13 ?_
    refine tf 22 g13 ?_
    refine na ?_
    refine AWA.oneOff 17 [12, 13, 22] [16, 14, 11, 15, 10, 5, 9, 4, 8, 7, 3, 1, 6, 2, 0] (by decide +kernel) rfl rfl g13 (by decide +kernel) (by decide +kernel) (by decide +kernel) rfl (by decide) ?_
    refine na ?_
    refine AWA.againE rfl rfl (by decide +kernel) (.off rfl g13) rfl ?_
    refine AWA.againE rfl rfl (by decide +kernel) (.off rfl g13) rfl ?_
    refine AWA.againE rfl rfl (by decide +kernel) (.off rfl g13) rfl ?_
    refine na ?_
    refine tf 18 g13 ?_
    refine tf 19 g13 ?_
    refine tf 20 g13 ?_
    refine na ?_
    refine tf 21 g13 ?_
    refine tf 23 g13 ?_
    refine tk 24 rfl (Qt.pickF rfl g13) ?_
    refine na ?_
    refine tk 25 rfl Qt.move ?_
    refine AWA.split 92 rfl (fun g15 => ?_) (fun g15 => ?_)
    ·refine tg 26 rfl g15 (Qt.loadG rfl rfl rfl ag38 sz38 (by decide)) ?_
     refine tg 27 rfl g15 (fA fl109_2) ?_
     refine na ?_
     refine tg 28 rfl g15 (Qt.load1 rfl rfl rfl ag3) ?_
     refine tg 29 rfl g15 Qt.move ?_
     refine AWA.one 30 [] [29, 28, 26, 25, 27, 24, 17, 23, 11, 16, 14, 22, 21, 10, 5, 15, 20, 9, 4, 19, 8, 7, 3, 1, 18, 6, 2, 0, 13, 12] (by decide +kernel) rfl rfl g15 (by decide +kernel) (by decide +kernel) (by decide +kernel) (Stp.callV rfl (by decide) Tryz.call169 rfl rfl (l6Ends_con u _ _ hb)) ?_
     refine na ?_
     refine na ?_
     refine tg 31 rfl g15 (Qt.binOp rfl rfl rfl) ?_
     refine tk 32 rfl (Qt.pickT rfl g15) ?_
     refine tk 33 rfl Qt.assign ?_
     refine na ?_
     refine nz ?_
     refine AW.ret (endQ_ret (.cons (.tmp 4) .nil) ?_)
     simp only [retX, slotL, reduceIte, Nat.reduceEqDiff]
     congr 2
     simp only [soundS, waitsP, endS, openX, pipeX]
     grind only
    refine tf 26 g15 ?_
    refine tf 27 g15 ?_
    refine tf 28 g15 ?_
    refine na ?_
    refine tf 29 g15 ?_
    refine AWA.oneOff 30 [] [29, 28, 26, 25, 27, 24, 17, 23, 11, 16, 14, 22, 21, 10, 5, 15, 20, 9, 4, 19, 8, 7, 3, 1, 18, 6, 2, 0, 13, 12] (by decide +kernel) rfl rfl g15 (by decide +kernel) (by decide +kernel) (by decide +kernel) rfl (by decide) ?_
    refine na ?_
    refine na ?_
    refine tf 31 g15 ?_
    refine tk 32 rfl (Qt.pickF rfl g15) ?_
    refine tk 33 rfl Qt.assign ?_
    refine na ?_
    refine nz ?_
    refine AW.ret (endQ_ret (.cons (.tmp 4) .nil) ?_)
    simp only [retX, slotL, reduceIte, Nat.reduceEqDiff]
    congr 2
    simp only [soundS, waitsP, endS, openX, pipeX]
    grind only
   have k8 := c8
   try simp only [cnd] at c8
   refine jd (AW.seq ?_)
   refine AW.draw [0, 1, 2, 3, 5, 6, 7, 8, 9, 10, 11, 12, 13, 14, 15, 16, 18, 19, 20, 21, 22, 23, 24, 25, 26, 27, 28, 29, 31, 32, 33] rfl (by decide +kernel) ?_
   refine tk 0 rfl (fA fl97_6) ?_
   refine tk 1 rfl (Qt.load1 rfl rfl rfl ag27) ?_
   refine tk 2 rfl (fA fl109_0) ?_
   refine na ?_
   refine tk 3 rfl (Qt.load1 rfl rfl rfl ag3) ?_
   refine AWA.one 4 [] [3, 1, 2, 0] (by decide +kernel) rfl rfl rfl (by decide +kernel) (by decide +kernel) (by decide +kernel) (Stp.callV rfl (by decide) Tryz.call167 rfl rfl (l6Has_con _ _)) ?_
   refine na ?_
   refine na ?_
   refine tk 5 rfl Qt.move ?_
   refine AWA.split 72 rfl (fun g16 => ?_) (fun g16 => ?_)
   ·refine tg 6 rfl g16 (fA fl109_1) ?_
    refine tg 7 rfl g16 (Qt.load1 rfl rfl rfl ag3) ?_
    refine na ?_
    refine tg 8 rfl g16 Qt.move ?_
    refine tg 9 rfl g16 (Qt.binOp rfl rfl rfl) ?_
    refine tk 10 rfl (Qt.pickT rfl g16) ?_
    refine na ?_
    refine tk 11 rfl Qt.move ?_
    refine AWA.split 78 rfl (fun g17 => ?_) (fun g17 => ?_)
    ·refine tg 12 rfl g17 (fA fl38_5) ?_
     refine tg 13 rfl g17 (Qt.load1 rfl rfl rfl ag35) ?_
     refine na ?_
     refine tg 14 rfl g17 (Qt.loadG rfl rfl rfl ag38 sz38 (by decide)) ?_
     refine tg 15 rfl g17 (fA fl109_2) ?_
     refine tg 16 rfl g17 (Qt.load1 rfl rfl rfl ag3) ?_
     refine na ?_
     refine tg 22 rfl g17 Qt.move ?_
     refine AWA.one 17 [12, 13, 22] [16, 14, 11, 15, 10, 5, 9, 4, 8, 7, 3, 1, 6, 2, 0] (by decide +kernel) rfl rfl g17 (by decide +kernel) (by decide +kernel) (by decide +kernel) (Stp.callV rfl (by decide) Tryz.call202 rfl rfl (l6Pipe_con u _)) ?_
     refine na ?_
     refine AWA.againE rfl rfl (by decide +kernel) (.on rfl g17 (fA fl38_5)) rfl ?_
     refine AWA.againE rfl rfl (by decide +kernel) (.on rfl g17 (Qt.load1 rfl rfl rfl ag35)) rfl ?_
     refine AWA.againE rfl rfl (by decide +kernel) (.on rfl g17 Qt.move) rfl ?_
     refine na ?_
     refine tg 18 rfl g17 (Qt.indexAddr rfl rfl rfl rfl sl35 sz128 (by decide) (by first | omega | grind only)) ?_
     refine tg 19 rfl g17 (fA fl128_1) ?_
     refine tg 20 rfl g17 (Qt.load1 rfl rfl rfl ag27) ?_
     refine na ?_
     refine tg 21 rfl g17 (Qt.lenH rfl rfl rfl sl27) ?_
     refine tg 23 rfl g17 (Qt.binOp rfl rfl rfl) ?_
     refine tk 24 rfl (Qt.pickT rfl g17) ?_
     refine na ?_
     refine tk 25 rfl Qt.move ?_
     refine AWA.split 92 rfl (fun g18 => ?_) (fun g18 => ?_)
     ·refine tg 26 rfl g18 (Qt.loadG rfl rfl rfl ag38 sz38 (by decide)) ?_
      refine tg 27 rfl g18 (fA fl109_2) ?_
      refine na ?_
      refine tg 28 rfl g18 (Qt.load1 rfl rfl rfl ag3) ?_
      refine tg 29 rfl g18 Qt.move ?_
      refine AWA.one 30 [] [29, 28, 26, 25, 27, 24, 17, 23, 11, 16, 14, 22, 21, 10, 5, 15, 20, 9, 4, 19, 8, 7, 3, 1, 18, 6, 2, 0, 13, 12] (by decide +kernel) rfl rfl g18 (by decide +kernel) (by decide +kernel) (by decide +kernel) (Stp.callV rfl (by decide) Tryz.call169 rfl rfl (l6Ends_con u _ _ hb)) ?_
      refine na ?_
      refine na ?_
      refine tg 31 rfl g18 (Qt.binOp rfl rfl rfl) ?_
      refine tk 32 rfl (Qt.pickT rfl g18) ?_
      refine tk 33 rfl Qt.assign ?_
      refine na ?_
      refine nz ?_
      refine AW.ret (endQ_ret (.cons (.tmp 4) .nil) ?_)
      simp only [retX, slotL, reduceIte, Nat.reduceEqDiff]
      congr 2
      simp only [soundS, waitsP, endS, openX, pipeX]
      grind only
     refine tf 26 g18 ?_
     refine tf 27 g18 ?_
     refine tf 28 g18 ?_
     refine na ?_
     refine tf 29 g18 ?_
     refine AWA.oneOff 30 [] [29, 28, 26, 25, 27, 24, 17, 23, 11, 16, 14, 22, 21, 10, 5, 15, 20, 9, 4, 19, 8, 7, 3, 1, 18, 6, 2, 0, 13, 12] (by decide +kernel) rfl rfl g18 (by decide +kernel) (by decide +kernel) (by decide +kernel) rfl (by decide) ?_
     refine na ?_
     refine na ?_
     refine tf 31 g18 ?_
     refine tk 32 rfl (Qt.pickF rfl g18) ?_
     refine tk 33 rfl Qt.assign ?_
     refine na ?_
     refine nz ?_
     refine AW.ret (endQ_ret (.cons (.tmp 4) .nil) ?_)
     simp only [retX, slotL, reduceIte, Nat.reduceEqDiff]
     congr 2
     simp only [soundS, waitsP, endS, openX, pipeX]
     grind only
    refine tf 12 g17 ?_
    refine tf 13 g17 ?_
    refine tf 14 g17 ?_
    refine na ?_
    refine tf 15 g17 ?_
    refine tf 16 g17 ?_
    refine tf 22 g17 ?_
    refine na ?_
    refine AWA.oneOff 17 [12, 13, 22] [16, 14, 11, 15, 10, 5, 9, 4, 8, 7, 3, 1, 6, 2, 0] (by decide +kernel) rfl rfl g17 (by decide +kernel) (by decide +kernel) (by decide +kernel) rfl (by decide) ?_
    refine na ?_
    refine AWA.againE rfl rfl (by decide +kernel) (.off rfl g17) rfl ?_
    refine AWA.againE rfl rfl (by decide +kernel) (.off rfl g17) rfl ?_
    refine AWA.againE rfl rfl (by decide +kernel) (.off rfl g17) rfl ?_
    refine na ?_
    refine tf 18 g17 ?_
    refine tf 19 g17 ?_
    refine tf 20 g17 ?_
    refine na ?_
    refine tf 21 g17 ?_
    refine tf 23 g17 ?_
    refine tk 24 rfl (Qt.pickF rfl g17) ?_
    refine na ?_
    refine tk 25 rfl Qt.move ?_
    refine AWA.split 92 rfl (fun g19 => ?_) (fun g19 => ?_)
    ·refine tg 26 rfl g19 (Qt.loadG rfl rfl rfl ag38 sz38 (by decide)) ?_
     refine tg 27 rfl g19 (fA fl109_2) ?_
     refine na ?_
     refine tg 28 rfl g19 (Qt.load1 rfl rfl rfl ag3) ?_
     refine tg 29 rfl g19 Qt.move ?_
     refine AWA.one 30 [] [29, 28, 26, 25, 27, 24, 17, 23, 11, 16, 14, 22, 21, 10, 5, 15, 20, 9, 4, 19, 8, 7, 3, 1, 18, 6, 2, 0, 13, 12] (by decide +kernel) rfl rfl g19 (by decide +kernel) (by decide +kernel) (by decide +kernel) (Stp.callV rfl (by decide) Tryz.call169 rfl rfl (l6Ends_con u _ _ hb)) ?_
     refine na ?_
     refine na ?_
     refine tg 31 rfl g19 (Qt.binOp rfl rfl rfl) ?_
     refine tk 32 rfl (Qt.pickT rfl g19) ?_
     refine tk 33 rfl Qt.assign ?_
     refine na ?_
     refine nz ?_
     refine AW.ret (endQ_ret (.cons (.tmp 4) .nil) ?_)
     simp only [retX, slotL, reduceIte, Nat.reduceEqDiff]
     congr 2
     simp only [soundS, waitsP, endS, openX, pipeX]
     grind only
    refine tf 26 g19 ?_
    refine tf 27 g19 ?_
    refine tf 28 g19 ?_
    refine na ?_
    refine tf 29 g19 ?_
    refine AWA.oneOff 30 [] [29, 28, 26, 25, 27, 24, 17, 23, 11, 16, 14, 22, 21, 10, 5, 15, 20, 9, 4, 19, 8, 7, 3, 1, 18, 6, 2, 0, 13, 12] (by decide +kernel) rfl rfl g19 (by decide +kernel) (by decide +kernel) (by decide +kernel) rfl (by decide) ?_
    refine na ?_
    refine na ?_
    refine tf 31 g19 ?_
    refine tk 32 rfl (Qt.pickF rfl g19) ?_
    refine tk 33 rfl Qt.assign ?_
    refine na ?_
    refine nz ?_
    refine AW.ret (endQ_ret (.cons (.tmp 4) .nil) ?_)
    simp only [retX, slotL, reduceIte, Nat.reduceEqDiff]
    congr 2
    simp only [soundS, waitsP, endS, openX, pipeX]
    grind only
   refine tf 6 g16 ?_
   refine tf 7 g16 ?_
   refine tf 8 g16 ?_
   refine na ?_
   refine tf 9 g16 ?_
   refine tk 10 rfl (Qt.pickF rfl g16) ?_
   refine tk 11 rfl Qt.move ?_
   refine na ?_
   refine AWA.split 78 rfl (fun g20 => ?_) (fun g20 => ?_)
   ·refine tg 12 rfl g20 (fA fl38_5) ?_
    refine tg 13 rfl g20 (Qt.load1 rfl rfl rfl ag35) ?_
    refine tg 14 rfl g20 (Qt.loadG rfl rfl rfl ag38 sz38 (by decide)) ?_
    refine na ?_
    refine tg 15 rfl g20 (fA fl109_2) ?_
    refine tg 16 rfl g20 (Qt.load1 rfl rfl rfl ag3) ?_
    refine tg 22 rfl g20 Qt.move ?_
    refine na ?_
    refine AWA.one 17 [12, 13, 22] [16, 14, 11, 15, 10, 5, 9, 4, 8, 7, 3, 1, 6, 2, 0] (by decide +kernel) rfl rfl g20 (by decide +kernel) (by decide +kernel) (by decide +kernel) (Stp.callV rfl (by decide) Tryz.call202 rfl rfl (l6Pipe_con u _)) ?_
    refine na ?_
    refine AWA.againE rfl rfl (by decide +kernel) (.on rfl g20 (fA fl38_5)) rfl ?_
    refine AWA.againE rfl rfl (by decide +kernel) (.on rfl g20 (Qt.load1 rfl rfl rfl ag35)) rfl ?_
    refine AWA.againE rfl rfl (by decide +kernel) (.on rfl g20 Qt.move) rfl ?_
    refine na ?_
    refine tg 18 rfl g20 (Qt.indexAddr rfl rfl rfl rfl sl35 sz128 (by decide) (by first | omega | grind only)) ?_
    refine tg 19 rfl g20 (fA fl128_1) ?_
    refine tg 20 rfl g20 (Qt.load1 rfl rfl rfl ag27) ?_
    refine na ?_
    refine tg 21 rfl g20 (Qt.lenH rfl rfl rfl sl27) ?_
    refine tg 23 rfl g20 (Qt.binOp rfl rfl rfl) ?_
    refine tk 24 rfl (Qt.pickT rfl g20) ?_
    refine na ?_
    refine tk 25 rfl Qt.move ?_
    refine AWA.split 92 rfl (fun g21 => ?_) (fun g21 => ?_)
    ·refine tg 26 rfl g21 (Qt.loadG rfl rfl rfl ag38 sz38 (by decide)) ?_
     refine tg 27 rfl g21 (fA fl109_2) ?_
     refine na ?_
     refine tg 28 rfl g21 (Qt.load1 rfl rfl rfl ag3) ?_
     refine tg 29 rfl g21 Qt.move ?_
     refine AWA.one 30 [] [29, 28, 26, 25, 27, 24, 17, 23, 11, 16, 14, 22, 21, 10, 5, 15, 20, 9, 4, 19, 8, 7, 3, 1, 18, 6, 2, 0, 13, 12] (by decide +kernel) rfl rfl g21 (by decide +kernel) (by decide +kernel) (by decide +kernel) (Stp.callV rfl (by decide) Tryz.call169 rfl rfl (l6Ends_con u _ _ hb)) ?_
     refine na ?_
     refine na ?_
     refine tg 31 rfl g21 (Qt.binOp rfl rfl rfl) ?_
     refine tk 32 rfl (Qt.pickT rfl g21) ?_
     refine tk 33 rfl Qt.assign ?_
     refine na ?_
     refine nz ?_
     refine AW.ret (endQ_ret (.cons (.tmp 4) .nil) ?_)
     simp only [retX, slotL, reduceIte, Nat.reduceEqDiff]
     congr 2
     simp only [soundS, waitsP, endS, openX, pipeX]
     grind only
    refine tf 26 g21 ?_
    refine tf 27 g21 ?_
    refine tf 28 g21 ?_
    refine na ?_
    refine tf 29 g21 ?_
    refine AWA.oneOff 30 [] [29, 28, 26, 25, 27, 24, 17, 23, 11, 16, 14, 22, 21, 10, 5, 15, 20, 9, 4, 19, 8, 7, 3, 1, 18, 6, 2, 0, 13, 12] (by decide +kernel) rfl rfl g21 (by decide +kernel) (by decide +kernel) (by decide +kernel) rfl (by decide) ?_
    refine na ?_
    refine na ?_
    refine tf 31 g21 ?_
    refine tk 32 rfl (Qt.pickF rfl g21) ?_
    refine tk 33 rfl Qt.assign ?_
    refine na ?_
    refine nz ?_
    refine AW.ret (endQ_ret (.cons (.tmp 4) .nil) ?_)
    simp only [retX, slotL, reduceIte, Nat.reduceEqDiff]
    congr 2
    simp only [soundS, waitsP, endS, openX, pipeX]
    grind only
   refine tf 12 g20 ?_
   refine tf 13 g20 ?_
   refine tf 14 g20 ?_
   refine na ?_
   refine tf 15 g20 ?_
   refine tf 16 g20 ?_
   refine tf 22 g20 ?_
   refine na ?_
   refine AWA.oneOff 17 [12, 13, 22] [16, 14, 11, 15, 10, 5, 9, 4, 8, 7, 3, 1, 6, 2, 0] (by decide +kernel) rfl rfl g20 (by decide +kernel) (by decide +kernel) (by decide +kernel) rfl (by decide) ?_
   refine na ?_
   refine AWA.againE rfl rfl (by decide +kernel) (.off rfl g20) rfl ?_
   refine AWA.againE rfl rfl (by decide +kernel) (.off rfl g20) rfl ?_
   refine AWA.againE rfl rfl (by decide +kernel) (.off rfl g20) rfl ?_
   refine na ?_
   refine tf 18 g20 ?_
   refine tf 19 g20 ?_
   refine tf 20 g20 ?_
   refine na ?_
   refine tf 21 g20 ?_
   refine tf 23 g20 ?_
   refine tk 24 rfl (Qt.pickF rfl g20) ?_
   refine na ?_
   refine tk 25 rfl Qt.move ?_
   refine AWA.split 92 rfl (fun g22 => ?_) (fun g22 => ?_)
   ·refine tg 26 rfl g22 (Qt.loadG rfl rfl rfl ag38 sz38 (by decide)) ?_
    refine tg 27 rfl g22 (fA fl109_2) ?_
    refine na ?_
    refine tg 28 rfl g22 (Qt.load1 rfl rfl rfl ag3) ?_
    refine tg 29 rfl g22 Qt.move ?_
    refine AWA.one 30 [] [29, 28, 26, 25, 27, 24, 17, 23, 11, 16, 14, 22, 21, 10, 5, 15, 20, 9, 4, 19, 8, 7, 3, 1, 18, 6, 2, 0, 13, 12] (by decide +kernel) rfl rfl g22 (by decide +kernel) (by decide +kernel) (by decide +kernel) (Stp.callV rfl (by decide) Tryz.call169 rfl rfl (l6Ends_con u _ _ hb)) ?_
    refine na ?_
    refine na ?_
    refine tg 31 rfl g22 (Qt.binOp rfl rfl rfl) ?_
    refine tk 32 rfl (Qt.pickT rfl g22) ?_
    refine tk 33 rfl Qt.assign ?_
    refine na ?_
    refine nz ?_
    refine AW.ret (endQ_ret (.cons (.tmp 4) .nil) ?_)
    simp only [retX, slotL, reduceIte, Nat.reduceEqDiff]
    congr 2
    simp only [soundS, waitsP, endS, openX, pipeX]
    grind only
   refine tf 26 g22 ?_
   refine tf 27 g22 ?_
   refine tf 28 g22 ?_
   refine na ?_
   refine tf 29 g22 ?_
   refine AWA.oneOff 30 [] [29, 28, 26, 25, 27, 24, 17, 23, 11, 16, 14, 22, 21, 10, 5, 15, 20, 9, 4, 19, 8, 7, 3, 1, 18, 6, 2, 0, 13, 12] (by decide +kernel) rfl rfl g22 (by decide +kernel) (by decide +kernel) (by decide +kernel) rfl (by decide) ?_
   refine na ?_
   refine na ?_
   refine tf 31 g22 ?_
   refine tk 32 rfl (Qt.pickF rfl g22) ?_
   refine tk 33 rfl Qt.assign ?_
   refine na ?_
   refine nz ?_
   refine AW.ret (endQ_ret (.cons (.tmp 4) .nil) ?_)
   simp only [retX, slotL, reduceIte, Nat.reduceEqDiff]
   congr 2
   simp only [soundS, waitsP, endS, openX, pipeX]
   grind only
 have k7 := c7
 try simp only [cnd] at c7
 refine AW.region ?_
 refine qq (Qt.binOp rfl rfl rfl) ?_
 refine qq Qt.assign ?_
 refine nl ?_
 refine AW.cond rfl (fun c23 => ?_) (fun c23 => ?_)
 ·have k23 := c23
  try simp only [cnd] at c23
  refine AW.seq ?_
  refine AW.draw [0, 1, 2, 3, 4, 6, 7] rfl (by decide +kernel) ?_
  refine tk 0 rfl (fA fl38_4) ?_
  refine na ?_
  refine tk 1 rfl (Qt.load1 rfl rfl rfl ag34) ?_
  refine tk 2 rfl (Qt.loadG rfl rfl rfl ag38 sz38 (by decide)) ?_
  refine tk 3 rfl (fA fl97_7) ?_
  refine na ?_
  refine tk 4 rfl (Qt.load1 rfl rfl rfl ag3) ?_
  apply AWA.cutS #[true, true, true, true, true, true, true, true, true, false] [0, 1, 6, 7]
  ·intro K17_0
   refine AWA.anyL [5, 8] (by decide +kernel) rfl ⟨?_, ?_, trivial⟩
   ·refine AWA.arm 5 [0, 1] [4, 2, 3] rfl rfl rfl (by decide +kernel) (by decide +kernel) (by decide +kernel) (Stp.callV rfl (by decide) Tryz.call165 rfl rfl (l6Open_con u _)) ?_
    refine na ?_
    refine AWA.againE rfl rfl (by decide +kernel) (.on rfl rfl (fA fl38_4)) rfl ?_
    refine AWA.againE rfl rfl (by decide +kernel) (.on rfl rfl (Qt.load1 rfl rfl rfl ag34)) rfl ?_
    refine na ?_
    refine AWA.take 6 rfl rfl rfl (by decide +kernel) (.on rfl rfl (Qt.indexAddr rfl rfl rfl rfl sl34 sz109 (by decide) (by first | omega | grind only))) ?_
    refine AWA.take 7 rfl rfl rfl (by decide +kernel) (.on rfl rfl (Qt.loadG rfl rfl rfl ag109 sz109 (by decide))) ?_
    refine AWA.one 8 [0, 1, 6, 7] [] (by decide +kernel) rfl rfl rfl (by decide +kernel) (by decide +kernel) (by decide +kernel) (Stp.alloc rfl (by decide) (by decide)) ?_
    refine na ?_
    refine AWA.againE rfl rfl (by decide +kernel) (.on rfl rfl (fA fl38_4)) rfl ?_
    refine AWA.againE rfl rfl (by decide +kernel) (.on rfl rfl (Qt.load1 rfl rfl rfl ag34)) rfl ?_
    refine AWA.againE rfl rfl (by decide +kernel) (.on rfl rfl (Qt.indexAddr rfl rfl rfl rfl sl34 sz109 (by decide) (by first | omega | grind only))) rfl ?_
    refine na ?_
    refine AWA.againE rfl rfl (by decide +kernel) (.on rfl rfl (Qt.loadG rfl rfl rfl ag109 sz109 (by decide))) rfl ?_
    refine na ?_
    exact AWA.use (by decide +kernel) (by decide +kernel) Weak.refl K17_0
   ·refine AWA.arm 8 [0, 1, 2, 3, 4] [] rfl rfl rfl (by decide +kernel) (by decide +kernel) (by decide +kernel) (Stp.alloc rfl (by decide) (by decide)) ?_
    refine na ?_
    refine AWA.againE rfl rfl (by decide +kernel) (.on rfl rfl (fA fl38_4)) rfl ?_
    refine AWA.againE rfl rfl (by decide +kernel) (.on rfl rfl (Qt.load1 rfl rfl rfl ag34)) rfl ?_
    refine AWA.againE rfl rfl (by decide +kernel) (.on rfl rfl (Qt.loadG rfl rfl rfl ag38 sz38 (by decide))) rfl ?_
    refine na ?_
    refine AWA.againE rfl rfl (by decide +kernel) (.on rfl rfl (fA fl97_7)) rfl ?_
    refine AWA.againE rfl rfl (by decide +kernel) (.on rfl rfl (Qt.load1 rfl rfl rfl ag3)) rfl ?_
    refine na ?_
    refine AWA.one 5 [0, 1] [4, 2, 3] (by decide +kernel) rfl rfl rfl (by decide +kernel) (by decide +kernel) (by decide +kernel) (Stp.callV rfl (by decide) Tryz.call165 rfl rfl (l6Open_con u _)) ?_
    refine na ?_
    refine AWA.againE rfl rfl (by decide +kernel) (.on rfl rfl (fA fl38_4)) rfl ?_
    refine AWA.againE rfl rfl (by decide +kernel) (.on rfl rfl (Qt.load1 rfl rfl rfl ag34)) rfl ?_
    refine na ?_
    refine AWA.take 6 rfl rfl rfl (by decide +kernel) (.on rfl rfl (Qt.indexAddr rfl rfl rfl rfl sl34 sz109 (by decide) (by first | omega | grind only))) ?_
    refine AWA.take 7 rfl rfl rfl (by decide +kernel) (.on rfl rfl (Qt.loadG rfl rfl rfl ag109 sz109 (by decide))) ?_
    refine na ?_
    exact AWA.use (by decide +kernel) (by decide +kernel) (Weak.sim (by repeat (first | exact trivial | refine ⟨rfl, ?_⟩ | refine ⟨⟨_, rfl, T.sim_refl _⟩, ?_⟩ | refine ⟨⟨rfl, rfl⟩, ?_⟩)) rfl rfl) K17_0
  ·refine AWA.one 9 [] [8, 7, 6, 5, 4, 3, 2, 1, 0] (by decide +kernel) rfl rfl rfl (by decide +kernel) (by decide +kernel) (by decide +kernel) (by first | exact Stp.storeA rfl rfl rfl rfl (by decide) rfl | exact Stp.store rfl rfl (by simp) rfl rfl rfl (by decide) rfl) ?_
   refine na ?_
   refine nz ?_
   refine AW.seq (AW.region ?_)
   refine qq Qt.assign ?_
   refine nl ?_
   refine AW.seq (AW.region ?_)
   refine qq Qt.assign ?_
   refine nl ?_
   refine AW.seq (AW.region ?_)
   refine qq Qt.assign ?_
   refine nl ?_
   refine AW.seq (AW.seq (AW.region ?_))
   refine qq (fA fl97_2) ?_
   refine nm ?_
   refine qq (Qt.load1 rfl rfl rfl ag3) ?_
   refine qq (Qt.binOp rfl rfl rfl) ?_
   refine nl ?_
   refine AW.cond rfl (fun c24 => ?_) (fun c24 => ?_)
   ·have k24 := c24
    try simp only [cnd] at c24
    refine AW.seq (AW.region ?_)
    refine qq Qt.assign ?_
    refine nl ?_
    refine AW.seq (AW.region ?_)
    refine qq Qt.assign ?_
    refine nl ?_
    refine AW.region ?_
    refine qq Qt.assign ?_
    refine nl ?_
    refine AW.seq ?_
    refine AW.draw [0, 1, 2, 3, 5, 6, 7, 8, 9, 10, 11, 12, 13, 14, 15, 16, 18, 19, 20, 21, 22, 23, 24, 25, 26, 27, 28, 29, 31, 32, 33] rfl (by decide +kernel) ?_
    refine tk 0 rfl (fA fl97_6) ?_
    refine na ?_
    refine tk 1 rfl (Qt.load1 rfl rfl rfl ag27) ?_
    refine tk 2 rfl (fA fl109_0) ?_
    refine tk 3 rfl (Qt.load1 rfl rfl rfl ag3) ?_
    refine na ?_
    refine AWA.one 4 [] [3, 1, 2, 0] (by decide +kernel) rfl rfl rfl (by decide +kernel) (by decide +kernel) (by decide +kernel) (Stp.callV rfl (by decide) Tryz.call167 rfl rfl (l6Has_con _ _)) ?_
    refine na ?_
    refine na ?_
    refine tk 5 rfl Qt.move ?_
    refine AWA.split 72 rfl (fun g25 => ?_) (fun g25 => ?_)
    ·refine tg 6 rfl g25 (fA fl109_1) ?_
     refine tg 7 rfl g25 (Qt.load1 rfl rfl rfl ag3) ?_
     refine na ?_
     refine tg 8 rfl g25 Qt.move ?_
     refine tg 9 rfl g25 (Qt.binOp rfl rfl rfl) ?_
     refine tk 10 rfl (Qt.pickT rfl g25) ?_
     refine na ?_
     refine tk 11 rfl Qt.move ?_
     refine AWA.split 78 rfl (fun g26 => ?_) (fun g26 => ?_)
     ·refine tg 12 rfl g26 (fA fl38_5) ?_
      refine tg 13 rfl g26 (Qt.load1 rfl rfl rfl ag35) ?_
      refine na ?_
      refine tg 14 rfl g26 (Qt.loadG rfl rfl rfl ag38 sz38 (by decide)) ?_
      refine tg 15 rfl g26 (fA fl109_2) ?_
      refine tg 16 rfl g26 (Qt.load1 rfl rfl rfl ag3) ?_
      refine na ?_
      refine tg 22 rfl g26 Qt.move ?_
      refine AWA.one 17 [12, 13, 22] [16, 14, 11, 15, 10, 5, 9, 4, 8, 7, 3, 1, 6, 2, 0] (by decide +kernel) rfl rfl g26 (by decide +kernel) (by decide +kernel) (by decide +kernel) (Stp.callV rfl (by decide) Tryz.call202 rfl rfl (l6Pipe_con u _)) ?_
      refine na ?_
      refine AWA.againE rfl rfl (by decide +kernel) (.on rfl g26 (fA fl38_5)) rfl ?_
      refine AWA.againE rfl rfl (by decide +kernel) (.on rfl g26 (Qt.load1 rfl rfl rfl ag35)) rfl ?_
      refine AWA.againE rfl rfl (by decide +kernel) (.on rfl g26 Qt.move) rfl ?_
      refine na ?_
      refine tg 18 rfl g26 (Qt.indexAddr rfl rfl rfl rfl sl35 sz128 (by decide) (by first | omega | grind only)) ?_
      refine tg 19 rfl g26 (fA fl128_1) ?_
      refine tg 20 rfl g26 (Qt.load1 rfl rfl rfl ag27) ?_
      refine na ?_
      refine tg 21 rfl g26 (Qt.lenH rfl rfl rfl sl27) ?_
      refine tg 23 rfl g26 (Qt.binOp rfl rfl rfl) ?_
      refine tk 24 rfl (Qt.pickT rfl g26) ?_
      refine na ?_
      refine tk 25 rfl Qt.move ?_
      refine AWA.split 92 rfl (fun g27 => ?_) (fun g27 => ?_)
      ·refine tg 26 rfl g27 (Qt.loadG rfl rfl rfl ag38 sz38 (by decide)) ?_
       refine tg 27 rfl g27 (fA fl109_2) ?_
       refine na ?_
       refine tg 28 rfl g27 (Qt.load1 rfl rfl rfl ag3) ?_
       refine tg 29 rfl g27 Qt.move ?_
       refine AWA.one 30 [] [29, 28, 26, 25, 27, 24, 17, 23, 11, 16, 14, 22, 21, 10, 5, 15, 20, 9, 4, 19, 8, 7, 3, 1, 18, 6, 2, 0, 13, 12] (by decide +kernel) rfl rfl g27 (by decide +kernel) (by decide +kernel) (by decide +kernel) (Stp.callV rfl (by decide) Tryz.call169 rfl rfl (l6Ends_con u _ _ hb)) ?_
       refine na ?_
       refine na ?_
       refine tg 31 rfl g27 (Qt.binOp rfl rfl rfl) ?_
       refine tk 32 rfl (Qt.pickT rfl g27) ?_
       refine tk 33 rfl Qt.assign ?_
       refine na ?_
       refine nz ?_
       refine AW.ret (endQ_ret (.cons (.tmp 4) .nil) ?_)
       simp only [retX, slotL, reduceIte, Nat.reduceEqDiff]
       congr 2
       simp only [soundS, waitsP, endS, openX, pipeX]
       grind only
      refine tf 26 g27 ?_
      refine tf 27 g27 ?_
      refine tf 28 g27 ?_
      refine na ?_
      refine tf 29 g27 ?_
      refine AWA.oneOff 30 [] [29, 28, 26, 25, 27, 24, 17, 23, 11, 16, 14, 22, 21, 10, 5, 15, 20, 9, 4, 19, 8, 7, 3, 1, 18, 6, 2, 0, 13, 12] (by decide +kernel) rfl rfl g27 (by decide +kernel) (by decide +kernel) (by decide +kernel) rfl (by decide) ?_
      refine na ?_
      refine na ?_
      refine tf 31 g27 ?_
      refine tk 32 rfl (Qt.pickF rfl g27) ?_
      refine tk 33 rfl Qt.assign ?_
      refine na ?_
      refine nz ?_
      refine AW.ret (endQ_ret (.cons (.tmp 4) .nil) ?_)
      simp only [retX, slotL, reduceIte, Nat.reduceEqDiff]
      congr 2
      simp only [soundS, waitsP, endS, openX, pipeX]
      grind only
     refine tf 12 g26 ?_
     refine tf 13 g26 ?_
     refine tf 14 g26 ?_
     refine na ?_
     refine tf 15 g26 ?_
     refine tf 16 g26 ?_
     refine tf 22 g26 ?_
     refine na ?_
     refine AWA.oneOff 17 [12, 13, 22] [16, 14, 11, 15, 10, 5, 9, 4, 8, 7, 3, 1, 6, 2, 0] (by decide +kernel) rfl rfl g26 (by decide +kernel) (by decide +kernel) (by decide +kernel) rfl (by decide) ?_
     refine na ?_
     refine AWA.againE rfl rfl (by decide +kernel) (.off rfl g26) rfl ?_
     refine AWA.againE rfl rfl (by decide +kernel) (.off rfl g26) rfl ?_
     refine AWA.againE rfl rfl (by decide +kernel) (.off rfl g26) rfl ?_
     refine na ?_
     refine tf 18 g26 ?_
     refine tf 19 g26 ?_
     refine tf 20 g26 ?_
     refine na ?_
     refine tf 21 g26 ?_
     refine tf 23 g26 ?_
     refine tk 24 rfl (Qt.pickF rfl g26) ?_
     refine na ?_
     refine tk 25 rfl Qt.move ?_
     refine AWA.split 92 rfl (fun g28 => ?_) (fun g28 => ?_)
     ·refine tg 26 rfl g28 (Qt.loadG rfl rfl rfl ag38 sz38 (by decide)) ?_
      refine tg 27 rfl g28 (fA fl109_2) ?_
      refine na ?_
      refine tg 28 rfl g28 (Qt.load1 rfl rfl rfl ag3) ?_
      refine tg 29 rfl g28 Qt.move ?_
      refine AWA.one 30 [] [29, 28, 26, 25, 27, 24, 17, 23, 11, 16, 14, 22, 21, 10, 5, 15, 20, 9, 4, 19, 8, 7, 3, 1, 18, 6, 2, 0, 13, 12] (by decide +kernel) rfl rfl g28 (by decide +kernel) (by decide +kernel) (by decide +kernel) (Stp.callV rfl (by decide) Tryz.call169 rfl rfl (l6Ends_con u _ _ hb)) ?_
      refine na ?_
      refine na ?_
      refine tg 31 rfl g28 (Qt.binOp rfl rfl rfl) ?_
      refine tk 32 rfl (Qt.pickT rfl g28) ?_
      refine tk 33 rfl Qt.assign ?_
      refine na ?_
      refine nz ?_
      refine AW.ret (endQ_ret (.cons (.tmp 4) .nil) ?_)
      simp only [retX, slotL, reduceIte, Nat.reduceEqDiff]
      congr 2
      simp only [soundS, waitsP, endS, openX, pipeX]
      grind only
     refine tf 26 g28 ?_
     refine tf 27 g28 ?_
     refine tf 28 g28 ?_
     refine na ?_
     refine tf 29 g28 ?_
     refine AWA.oneOff 30 [] [29, 28, 26, 25, 27, 24, 17, 23, 11, 16, 14, 22, 21, 10, 5, 15, 20, 9, 4, 19, 8, 7, 3, 1, 18, 6, 2, 0, 13, 12] (by decide +kernel) rfl rfl g28 (by decide +kernel) (by decide +kernel) (by decide +kernel) rfl (by decide) ?_
     refine na ?_
     refine na ?_
     refine tf 31 g28 ?_
     refine tk 32 rfl (Qt.pickF rfl g28) ?_
     refine tk 33 rfl Qt.assign ?_
     refine na ?_
     refine nz ?_
     refine AW.ret (endQ_ret (.cons (.tmp 4) .nil) ?_)
     simp only [retX, slotL, reduceIte, Nat.reduceEqDiff]
     congr 2
     simp only [soundS, waitsP, endS, openX, pipeX]
     grind only
    refine tf 6 g25 ?_
    refine tf 7 g25 ?_
    refine tf 8 g25 ?_
    refine na ?_
    refine tf 9 g25 ?_
    refine tk 10 rfl (Qt.pickF rfl g25) ?_
    refine tk 11 rfl Qt.move ?_
    refine na ?_
    refine AWA.split 78 rfl (fun g29 => ?_) (fun g29 => ?_)
    ·refine tg 12 rfl g29 (fA fl38_5) ?_
     refine tg 13 rfl g29 (Qt.load1 rfl rfl rfl ag35) ?_
     refine tg 14 rfl g29 (Qt.loadG rfl rfl rfl ag38 sz38 (by decide)) ?_
     refine na ?_
     refine tg 15 rfl g29 (fA fl109_2) ?_
     refine tg 16 rfl g29 (Qt.load1 rfl rfl rfl ag3) ?_
     refine tg 22 rfl g29 Qt.move ?_
     refine na ?_
     refine AWA.one 17 [12, 13, 22] [16, 14, 11, 15, 10, 5, 9, 4, 8, 7, 3, 1, 6, 2, 0] (by decide +kernel) rfl rfl g29 (by decide +kernel) (by decide +kernel) (by decide +kernel) (Stp.callV rfl (by decide) Tryz.call202 rfl rfl (l6Pipe_con u _)) ?_
     refine na ?_
     refine AWA.againE rfl rfl (by decide +kernel) (.on rfl g29 (fA fl38_5)) rfl ?_
     refine AWA.againE rfl rfl (by decide +kernel) (.on rfl g29 (Qt.load1 rfl rfl rfl ag35)) rfl ?_
     refine AWA.againE rfl rfl (by decide +kernel) (.on rfl g29 Qt.move) rfl ?_
     refine na ?_
     refine tg 18 rfl g29 (Qt.indexAddr rfl rfl rfl rfl sl35 sz128 (by decide) (by first | omega | grind only)) ?_
     refine tg 19 rfl g29 (fA fl128_1) ?_
     refine tg 20 rfl g29 (Qt.load1 rfl rfl rfl ag27) ?_
     refine na ?_
     refine tg 21 rfl g29 (Qt.lenH rfl rfl rfl sl27) ?_
     refine tg 23 rfl g29 (Qt.binOp rfl rfl rfl) ?_
     refine tk 24 rfl (Qt.pickT rfl g29) ?_
     refine na ?_
     refine tk 25 rfl Qt.move ?_
     refine AWA.split 92 rfl (fun g30 => ?_) (fun g30 => ?_)
     ·refine tg 26 rfl g30 (Qt.loadG rfl rfl rfl ag38 sz38 (by decide)) ?_
      refine tg 27 rfl g30 (fA fl109_2) ?_
      refine na ?_
      refine tg 28 rfl g30 (Qt.load1 rfl rfl rfl ag3) ?_
      refine tg 29 rfl g30 Qt.move ?_
      refine AWA.one 30 [] [29, 28, 26, 25, 27, 24, 17, 23, 11, 16, 14, 22, 21, 10, 5, 15, 20, 9, 4, 19, 8, 7, 3, 1, 18, 6, 2, 0, 13, 12] (by decide +kernel) rfl rfl g30 (by decide +kernel) (by decide +kernel) (by decide +kernel) (Stp.callV rfl (by decide) Tryz.call169 rfl rfl (l6Ends_con u _ _ hb)) ?_
      refine na ?_
      refine na ?_
      refine tg 31 rfl g30 (Qt.binOp rfl rfl rfl) ?_
      refine tk 32 rfl (Qt.pickT rfl g30) ?_
      refine tk 33 rfl Qt.assign ?_
      refine na ?_
      refine nz ?_
      refine AW.ret (endQ_ret (.cons (.tmp 4) .nil) ?_)
      simp only [retX, slotL, reduceIte, Nat.reduceEqDiff]
      congr 2
      simp only [soundS, waitsP, endS, openX, pipeX]
      grind only
     refine tf 26 g30 ?_
     refine tf 27 g30 ?_
     refine tf 28 g30 ?_
     refine na ?_
     refine tf 29 g30 ?_
     refine AWA.oneOff 30 [] [29, 28, 26, 25, 27, 24, 17, 23, 11, 16, 14, 22, 21, 10, 5, 15, 20, 9, 4, 19, 8, 7, 3, 1, 18, 6, 2, 0, 13, 12] (by decide +kernel) rfl rfl g30 (by decide +kernel) (by decide +kernel) (by decide +kernel) rfl (by decide) ?_
     refine na ?_
     refine na ?_
     refine tf 31 g30 ?_
     refine tk 32 rfl (Qt.pickF rfl g30) ?_
     refine tk 33 rfl Qt.assign ?_
     refine na ?_
     refine nz ?_
     refine AW.ret (endQ_ret (.cons (.tmp 4) .nil) ?_)
     simp only [retX, slotL, reduceIte, Nat.reduceEqDiff]
     congr 2
     simp only [soundS, waitsP, endS, openX, pipeX]
     grind only
    refine tf 12 g29 ?_
    refine tf 13 g29 ?_
    refine tf 14 g29 ?_
    refine na ?_
    refine tf 15 g29 ?_
    refine tf 16 g29 ?_
    refine tf 22 g29 ?_
    refine na ?_
    refine AWA.oneOff 17 [12, 13, 22] [16, 14, 11, 15, 10, 5, 9, 4, 8, 7, 3, 1, 6, 2, 0] (by decide +kernel) rfl rfl g29 (by decide +kernel) (by decide +kernel) (by decide +kernel) rfl (by decide) ?_
    refine na ?_
    refine AWA.againE rfl rfl (by decide +kernel) (.off rfl g29) rfl ?_
    refine AWA.againE rfl rfl (by decide +kernel) (.off rfl g29) rfl ?_
    refine AWA.againE rfl rfl (by decide +kernel) (.off rfl g29) rfl ?_
    refine na ?_
    refine tf 18 g29 ?_
    refine tf 19 g29 ?_
    refine tf 20 g29 ?_
    refine na ?_
    refine tf 21 g29 ?_
    refine tf 23 g29 ?_
    refine tk 24 rfl (Qt.pickF rfl g29) ?_
    refine na ?_
    refine tk 25 rfl Qt.move ?_
    refine AWA.split 92 rfl (fun g31 => ?_) (fun g31 => ?_)
    ·refine tg 26 rfl g31 (Qt.loadG rfl rfl rfl ag38 sz38 (by decide)) ?_
     refine tg 27 rfl g31 (fA fl109_2) ?_
     refine na ?_
     refine tg 28 rfl g31 (Qt.load1 rfl rfl rfl ag3) ?_
     refine tg 29 rfl g31 Qt.move ?_
     refine AWA.one 30 [] [29, 28, 26, 25, 27, 24, 17, 23, 11, 16, 14, 22, 21, 10, 5, 15, 20, 9, 4, 19, 8, 7, 3, 1, 18, 6, 2, 0, 13, 12] (by decide +kernel) rfl rfl g31 (by decide +kernel) (by decide +kernel) (by decide +kernel) (Stp.callV rfl (by decide) Tryz.call169 rfl rfl (l6Ends_con u _ _ hb)) ?_
     refine na ?_
     refine na ?_
     refine tg 31 rfl g31 (Qt.binOp rfl rfl rfl) ?_
     refine tk 32 rfl (Qt.pickT rfl g31) ?_
     refine tk 33 rfl Qt.assign ?_
     refine na ?_
     refine nz ?_
     refine AW.ret (endQ_ret (.cons (.tmp 4) .nil) ?_)
     simp only [retX, slotL, reduceIte, Nat.reduceEqDiff]
     congr 2
     simp only [soundS, waitsP, endS, openX, pipeX]
     grind only
    refine tf 26 g31 ?_
    refine tf 27 g31 ?_
    refine tf 28 g31 ?_
    refine na ?_
    refine tf 29 g31 ?_
    refine AWA.oneOff 30 [] [29, 28, 26, 25, 27, 24, 17, 23, 11, 16, 14, 22, 21, 10, 5, 15, 20, 9, 4, 19, 8, 7, 3, 1, 18, 6, 2, 0, 13, 12] (by decide +kernel) rfl rfl g31 (by decide +kernel) (by decide +kernel) (by decide +kernel) rfl (by decide) ?_
    refine na ?_
    refine na ?_
    refine tf 31 g31 ?_
    refine tk 32 rfl (Qt.pickF rfl g31) ?_
    refine tk 33 rfl Qt.assign ?_
    refine na ?_
    refine nz ?_
    refine AW.ret (endQ_ret (.cons (.tmp 4) .nil) ?_)
    simp only [retX, slotL, reduceIte, Nat.reduceEqDiff]
    congr 2
    simp only [soundS, waitsP, endS, openX, pipeX]
    grind only
   have k24 := c24
   try simp only [cnd] at c24
   refine jd (AW.seq ?_)
   refine AW.draw [0, 1, 2, 3, 5, 6, 7, 8, 9, 10, 11, 12, 13, 14, 15, 16, 18, 19, 20, 21, 22, 23, 24, 25, 26, 27, 28, 29, 31, 32, 33] rfl (by decide +kernel) ?_
   refine tk 0 rfl (fA fl97_6) ?_
   refine tk 1 rfl (Qt.load1 rfl rfl rfl ag27) ?_
   refine tk 2 rfl (fA fl109_0) ?_
   refine na ?_
   refine tk 3 rfl (Qt.load1 rfl rfl rfl ag3) ?_
   refine AWA.one 4 [] [3, 1, 2, 0] (by decide +kernel) rfl rfl rfl (by decide +kernel) (by decide +kernel) (by decide +kernel) (Stp.callV rfl (by decide) Tryz.call167 rfl rfl (l6Has_con _ _)) ?_
   refine na ?_
   refine na ?_
   refine tk 5 rfl Qt.move ?_
   refine AWA.split 72 rfl (fun g32 => ?_) (fun g32 => ?_)
   ·refine tg 6 rfl g32 (fA fl109_1) ?_
    refine tg 7 rfl g32 (Qt.load1 rfl rfl rfl ag3) ?_
    refine na ?_
    refine tg 8 rfl g32 Qt.move ?_
    refine tg 9 rfl g32 (Qt.binOp rfl rfl rfl) ?_
    refine tk 10 rfl (Qt.pickT rfl g32) ?_
    refine na ?_
    refine tk 11 rfl Qt.move ?_
    refine AWA.split 78 rfl (fun g33 => ?_) (fun g33 => ?_)
    ·refine tg 12 rfl g33 (fA fl38_5) ?_
     refine tg 13 rfl g33 (Qt.load1 rfl rfl rfl ag35) ?_
     refine na ?_
     refine tg 14 rfl g33 (Qt.loadG rfl rfl rfl ag38 sz38 (by decide)) ?_
     refine tg 15 rfl g33 (fA fl109_2) ?_
     refine tg 16 rfl g33 (Qt.load1 rfl rfl rfl ag3) ?_
     refine na ?_
     refine tg 22 rfl g33 Qt.move ?_
     refine AWA.one 17 [12, 13, 22] [16, 14, 11, 15, 10, 5, 9, 4, 8, 7, 3, 1, 6, 2, 0] (by decide +kernel) rfl rfl g33 (by decide +kernel) (by decide +kernel) (by decide +kernel) (Stp.callV rfl (by decide) Tryz.call202 rfl rfl (l6Pipe_con u _)) ?_
     refine na ?_
     refine AWA.againE rfl rfl (by decide +kernel) (.on rfl g33 (fA fl38_5)) rfl ?_
     refine AWA.againE rfl rfl (by decide +kernel) (.on rfl g33 (Qt.load1 rfl rfl rfl ag35)) rfl ?_
     refine AWA.againE rfl rfl (by decide +kernel) (.on rfl g33 Qt.move) rfl ?_
     refine na ?_
     refine tg 18 rfl g33 (Qt.indexAddr rfl rfl rfl rfl sl35 sz128 (by decide) (by first | omega | grind only)) ?_
     refine tg 19 rfl g33 (fA fl128_1) ?_
     refine tg 20 rfl g33 (Qt.load1 rfl rfl rfl ag27) ?_
     refine na ?_
     refine tg 21 rfl g33 (Qt.lenH rfl rfl rfl sl27) ?_
     refine tg 23 rfl g33 (Qt.binOp rfl rfl rfl) ?_
     refine tk 24 rfl (Qt.pickT rfl g33) ?_
     refine na ?_
     refine tk 25 rfl Qt.move ?_
     refine AWA.split 92 rfl (fun g34 => ?_) (fun g34 => ?_)
     ·refine tg 26 rfl g34 (Qt.loadG rfl rfl rfl ag38 sz38 (by decide)) ?_
      refine tg 27 rfl g34 (fA fl109_2) ?_
      refine na ?_
      refine tg 28 rfl g34 (Qt.load1 rfl rfl rfl ag3) ?_
      refine tg 29 rfl g34 Qt.move ?_
      refine AWA.one 30 [] [29, 28, 26, 25, 27, 24, 17, 23, 11, 16, 14, 22, 21, 10, 5, 15, 20, 9, 4, 19, 8, 7, 3, 1, 18, 6, 2, 0, 13, 12] (by decide +kernel) rfl rfl g34 (by decide +kernel) (by decide +kernel) (by decide +kernel) (Stp.callV rfl (by decide) Tryz.call169 rfl rfl (l6Ends_con u _ _ hb)) ?_
      refine na ?_
      refine na ?_
      refine tg 31 rfl g34 (Qt.binOp rfl rfl rfl) ?_
      refine tk 32 rfl (Qt.pickT rfl g34) ?_
      refine tk 33 rfl Qt.assign ?_
      refine na ?_
      refine nz ?_
      refine AW.ret (endQ_ret (.cons (.tmp 4) .nil) ?_)
      simp only [retX, slotL, reduceIte, Nat.reduceEqDiff]
      congr 2
      simp only [soundS, waitsP, endS, openX, pipeX]
      grind only
     refine tf 26 g34 ?_
     refine tf 27 g34 ?_
     refine tf 28 g34 ?_
     refine na ?_
     refine tf 29 g34 ?_
     refine AWA.oneOff 30 [] [29, 28, 26, 25, 27, 24, 17, 23, 11, 16, 14, 22, 21, 10, 5, 15, 20, 9, 4, 19, 8, 7, 3, 1, 18, 6, 2, 0, 13, 12] (by decide +kernel) rfl rfl g34 (by decide +kernel) (by decide +kernel) (by decide +kernel) rfl (by decide) ?_
     refine na ?_
     refine na ?_
     refine tf 31 g34 ?_
     refine tk 32 rfl (Qt.pickF rfl g34) ?_
     refine tk 33 rfl Qt.assign ?_
     refine na ?_
     refine nz ?_
     refine AW.ret (endQ_ret (.cons (.tmp 4) .nil) ?_)
     simp only [retX, slotL, reduceIte, Nat.reduceEqDiff]
     congr 2
     simp only [soundS, waitsP, endS, openX, pipeX]
     grind only
    refine tf 12 g33 ?_
    refine tf 13 g33 ?_
    refine tf 14 g33 ?_
    refine na ?_
    refine tf 15 g33 ?_
    refine tf 16 g33 ?_
    refine tf 22 g33 ?_
    refine na ?_
    refine AWA.oneOff 17 [12, 13, 22] [16, 14, 11, 15, 10, 5, 9, 4, 8, 7, 3, 1, 6, 2, 0] (by decide +kernel) rfl rfl g33 (by decide +kernel) (by decide +kernel) (by decide +kernel) rfl (by decide) ?_
    refine na ?_
    refine AWA.againE rfl rfl (by decide +kernel) (.off rfl g33) rfl ?_
    refine AWA.againE rfl rfl (by decide +kernel) (.off rfl g33) rfl ?_
    refine AWA.againE rfl rfl (by decide +kernel) (.off rfl g33) rfl ?_
    refine na ?_
    refine tf 18 g33 ?_
    refine tf 19 g33 ?_
    refine tf 20 g33 ?_
    refine na ?_
    refine tf 21 g33 ?_
    refine tf 23 g33 ?_
    refine tk 24 rfl (Qt.pickF rfl g33) ?_
    refine na ?_
    refine tk 25 rfl Qt.move ?_
    refine AWA.split 92 rfl (fun g35 => ?_) (fun g35 => ?_)
    ·refine tg 26 rfl g35 (Qt.loadG rfl rfl rfl ag38 sz38 (by decide)) ?_
     refine tg 27 rfl g35 (fA fl109_2) ?_
     refine na ?_
     refine tg 28 rfl g35 (Qt.load1 rfl rfl rfl ag3) ?_
     refine tg 29 rfl g35 Qt.move ?_
     refine AWA.one 30 [] [29, 28, 26, 25, 27, 24, 17, 23, 11, 16, 14, 22, 21, 10, 5, 15, 20, 9, 4, 19, 8, 7, 3, 1, 18, 6, 2, 0, 13, 12] (by decide +kernel) rfl rfl g35 (by decide +kernel) (by decide +kernel) (by decide +kernel) (Stp.callV rfl (by decide) Tryz.call169 rfl rfl (l6Ends_con u _ _ hb)) ?_
     refine na ?_
     refine na ?_
     refine tg 31 rfl g35 (Qt.binOp rfl rfl rfl) ?_
     refine tk 32 rfl (Qt.pickT rfl g35) ?_
     refine tk 33 rfl Qt.assign ?_
     refine na ?_
     refine nz ?_
     refine AW.ret (endQ_ret (.cons (.tmp 4) .nil) ?_)
     simp only [retX, slotL, reduceIte, Nat.reduceEqDiff]
     congr 2
     simp only [soundS, waitsP, endS, openX, pipeX]
     grind only
    refine tf 26 g35 ?_
    refine tf 27 g35 ?_
    refine tf 28 g35 ?_
    refine na ?_
    refine tf 29 g35 ?_
    refine AWA.oneOff 30 [] [29, 28, 26, 25, 27, 24, 17, 23, 11, 16, 14, 22, 21, 10, 5, 15, 20, 9, 4, 19, 8, 7, 3, 1, 18, 6, 2, 0, 13, 12] (by decide +kernel) rfl rfl g35 (by decide +kernel) (by decide +kernel) (by decide +kernel) rfl (by decide) ?_
    refine na ?_
    refine na ?_
    refine tf 31 g35 ?_
    refine tk 32 rfl (Qt.pickF rfl g35) ?_
    refine tk 33 rfl Qt.assign ?_
    refine na ?_
    refine nz ?_
    refine AW.ret (endQ_ret (.cons (.tmp 4) .nil) ?_)
    simp only [retX, slotL, reduceIte, Nat.reduceEqDiff]
    congr 2
    simp only [soundS, waitsP, endS, openX, pipeX]
    grind only
   refine tf 6 g32 ?_
   refine tf 7 g32 ?_
   refine tf 8 g32 ?_
   refine na ?_
   refine tf 9 g32 ?_
   refine tk 10 rfl (Qt.pickF rfl g32) ?_
   refine tk 11 rfl Qt.move ?_
   refine na ?_
   refine AWA.split 78 rfl (fun g36 => ?_) (fun g36 => ?_)
   ·refine tg 12 rfl g36 (fA fl38_5) ?_
    refine tg 13 rfl g36 (Qt.load1 rfl rfl rfl ag35) ?_
    refine tg 14 rfl g36 (Qt.loadG rfl rfl rfl ag38 sz38 (by decide)) ?_
    refine na ?_
    refine tg 15 rfl g36 (fA fl109_2) ?_
    refine tg 16 rfl g36 (Qt.load1 rfl rfl rfl ag3) ?_
    refine tg 22 rfl g36 Qt.move ?_
    refine na ?_
    refine AWA.one 17 [12, 13, 22] [16, 14, 11, 15, 10, 5, 9, 4, 8, 7, 3, 1, 6, 2, 0] (by decide +kernel) rfl rfl g36 (by decide +kernel) (by decide +kernel) (by decide +kernel) (Stp.callV rfl (by decide) Tryz.call202 rfl rfl (l6Pipe_con u _)) ?_
    refine na ?_
    refine AWA.againE rfl rfl (by decide +kernel) (.on rfl g36 (fA fl38_5)) rfl ?_
    refine AWA.againE rfl rfl (by decide +kernel) (.on rfl g36 (Qt.load1 rfl rfl rfl ag35)) rfl ?_
    refine AWA.againE rfl rfl (by decide +kernel) (.on rfl g36 Qt.move) rfl ?_
    refine na ?_
    refine tg 18 rfl g36 (Qt.indexAddr rfl rfl rfl rfl sl35 sz128 (by decide) (by first | omega | grind only)) ?_
    refine tg 19 rfl g36 (fA fl128_1) ?_
    refine tg 20 rfl g36 (Qt.load1 rfl rfl rfl ag27) ?_
    refine na ?_
    refine tg 21 rfl g36 (Qt.lenH rfl rfl rfl sl27) ?_
    refine tg 23 rfl g36 (Qt.binOp rfl rfl rfl) ?_
    refine tk 24 rfl (Qt.pickT rfl g36) ?_
    refine na ?_
    refine tk 25 rfl Qt.move ?_
    refine AWA.split 92 rfl (fun g37 => ?_) (fun g37 => ?_)
    ·refine tg 26 rfl g37 (Qt.loadG rfl rfl rfl ag38 sz38 (by decide)) ?_
     refine tg 27 rfl g37 (fA fl109_2) ?_
     refine na ?_
     refine tg 28 rfl g37 (Qt.load1 rfl rfl rfl ag3) ?_
     refine tg 29 rfl g37 Qt.move ?_
     refine AWA.one 30 [] [29, 28, 26, 25, 27, 24, 17, 23, 11, 16, 14, 22, 21, 10, 5, 15, 20, 9, 4, 19, 8, 7, 3, 1, 18, 6, 2, 0, 13, 12] (by decide +kernel) rfl rfl g37 (by decide +kernel) (by decide +kernel) (by decide +kernel) (Stp.callV rfl (by decide) Tryz.call169 rfl rfl (l6Ends_con u _ _ hb)) ?_
     refine na ?_
     refine na ?_
     refine tg 31 rfl g37 (Qt.binOp rfl rfl rfl) ?_
     refine tk 32 rfl (Qt.pickT rfl g37) ?_
     refine tk 33 rfl Qt.assign ?_
     refine na ?_
     refine nz ?_
     refine AW.ret (endQ_ret (.cons (.tmp 4) .nil) ?_)
     simp only [retX, slotL, reduceIte, Nat.reduceEqDiff]
     congr 2
     simp only [soundS, waitsP, endS, openX, pipeX]
     grind only
    refine tf 26 g37 ?_
    refine tf 27 g37 ?_
    refine tf 28 g37 ?_
    refine na ?_
    refine tf 29 g37 ?_
    refine AWA.oneOff 30 [] [29, 28, 26, 25, 27, 24, 17, 23, 11, 16, 14, 22, 21, 10, 5, 15, 20, 9, 4, 19, 8, 7, 3, 1, 18, 6, 2, 0, 13, 12] (by decide +kernel) rfl rfl g37 (by decide +kernel) (by decide +kernel) (by decide +kernel) rfl (by decide) ?_
    refine na ?_
    refine na ?_
    refine tf 31 g37 ?_
    refine tk 32 rfl (Qt.pickF rfl g37) ?_
    refine tk 33 rfl Qt.assign ?_
    refine na ?_
    refine nz ?_
    refine AW.ret (endQ_ret (.cons (.tmp 4) .nil) ?_)
    simp only [retX, slotL, reduceIte, Nat.reduceEqDiff]
    congr 2
    simp only [soundS, waitsP, endS, openX, pipeX]
    grind only
   refine tf 12 g36 ?_
   refine tf 13 g36 ?_
   refine tf 14 g36 ?_
   refine na ?_
   refine tf 15 g36 ?_
   refine tf 16 g36 ?_
   refine tf 22 g36 ?_
   refine na ?_
   refine AWA.oneOff 17 [12, 13, 22] [16, 14, 11, 15, 10, 5, 9, 4, 8, 7, 3, 1, 6, 2, 0] (by decide +kernel) rfl rfl g36 (by decide +kernel) (by decide +kernel) (by decide +kernel) rfl (by decide) ?_
   refine na ?_
   refine AWA.againE rfl rfl (by decide +kernel) (.off rfl g36) rfl ?_
   refine AWA.againE rfl rfl (by decide +kernel) (.off rfl g36) rfl ?_
   refine AWA.againE rfl rfl (by decide +kernel) (.off rfl g36) rfl ?_
   refine na ?_
   refine tf 18 g36 ?_
   refine tf 19 g36 ?_
   refine tf 20 g36 ?_
   refine na ?_
   refine tf 21 g36 ?_
   refine tf 23 g36 ?_
   refine tk 24 rfl (Qt.pickF rfl g36) ?_
   refine na ?_
   refine tk 25 rfl Qt.move ?_
   refine AWA.split 92 rfl (fun g38 => ?_) (fun g38 => ?_)
   ·refine tg 26 rfl g38 (Qt.loadG rfl rfl rfl ag38 sz38 (by decide)) ?_
    refine tg 27 rfl g38 (fA fl109_2) ?_
    refine na ?_
    refine tg 28 rfl g38 (Qt.load1 rfl rfl rfl ag3) ?_
    refine tg 29 rfl g38 Qt.move ?_
    refine AWA.one 30 [] [29, 28, 26, 25, 27, 24, 17, 23, 11, 16, 14, 22, 21, 10, 5, 15, 20, 9, 4, 19, 8, 7, 3, 1, 18, 6, 2, 0, 13, 12] (by decide +kernel) rfl rfl g38 (by decide +kernel) (by decide +kernel) (by decide +kernel) (Stp.callV rfl (by decide) Tryz.call169 rfl rfl (l6Ends_con u _ _ hb)) ?_
    refine na ?_
    refine na ?_
    refine tg 31 rfl g38 (Qt.binOp rfl rfl rfl) ?_
    refine tk 32 rfl (Qt.pickT rfl g38) ?_
    refine tk 33 rfl Qt.assign ?_
    refine na ?_
    refine nz ?_
    refine AW.ret (endQ_ret (.cons (.tmp 4) .nil) ?_)
    simp only [retX, slotL, reduceIte, Nat.reduceEqDiff]
    congr 2
    simp only [soundS, waitsP, endS, openX, pipeX]
    grind only
   refine tf 26 g38 ?_
   refine tf 27 g38 ?_
   refine tf 28 g38 ?_
   refine na ?_
   refine tf 29 g38 ?_
   refine AWA.oneOff 30 [] [29, 28, 26, 25, 27, 24, 17, 23, 11, 16, 14, 22, 21, 10, 5, 15, 20, 9, 4, 19, 8, 7, 3, 1, 18, 6, 2, 0, 13, 12] (by decide +kernel) rfl rfl g38 (by decide +kernel) (by decide +kernel) (by decide +kernel) rfl (by decide) ?_
   refine na ?_
   refine na ?_
   refine tf 31 g38 ?_
   refine tk 32 rfl (Qt.pickF rfl g38) ?_
   refine tk 33 rfl Qt.assign ?_
   refine na ?_
   refine nz ?_
   refine AW.ret (endQ_ret (.cons (.tmp 4) .nil) ?_)
   simp only [retX, slotL, reduceIte, Nat.reduceEqDiff]
   congr 2
   simp only [soundS, waitsP, endS, openX, pipeX]
   grind only
 have k23 := c23
 try simp only [cnd] at c23
 refine jd (AW.seq (AW.region ?_))
 refine qq Qt.assign ?_
 refine nl ?_
 refine AW.ret (endQ_ret (.cons (.tmp 4) .nil) ?_)
 simp only [retX, slotL, reduceIte, Nat.reduceEqDiff]
 congr 2
 simp only [soundS, waitsP, endS, openX, pipeX]
 grind only
end Go.Proofs.YtimmbmphfgnelaaGreat.VM
