/- Contracts of functions of the program. No conditions beyond those that each states. -/
import Derived.Test.YtimmbmphfgnelaaGreatCZB
import Derived.Test.YtimmbmphfgnelaaGreatCZG
set_option linter.all false
namespace Go.Proofs.YtimmbmphfgnelaaGreat.VM
open Go Go.RowKit Go.Proofs
structure WtInv (u : DUnix) (p : DProc) where
 k : Nat
 le : k ≤ u.Procs.length
 h : deadN u p k = 0
set_option maxHeartbeats 8000000 in
set_option maxRecDepth 10000 in
theorem waits_con (u : DUnix) (p : DProc) (hb : unixB u) : Con Tryz.prog 76 [.g [.v (iv u.Next), .v (iv u.Tick), .h base [], .h (base + 1) [], .h (base + 2) [], .h (base + 3) [], .h (base + 4) [], .h (base + 5) [], .h (base + 6) []], .g [.v (iv p.Pid), .v (iv p.Parent), .v (iv p.State), .v (iv p.Prog), .v (iv p.Cpu.Pc), .h (base + 7) [], .h (base + 8) [], .h (base + 9) [], .v (iv p.Until), .v (iv p.Code)]] [.rt base .ro (tr u.Progs), .rt (base + 1) .ro (tr u.Procs), .rt (base + 2) .ro (tr u.Opens), .rt (base + 3) .ro (tr u.Pipes), .rt (base + 4) .ro (tr u.Files), .rt (base + 5) .ro (tr u.Ready), .rt (base + 6) .ro (tr u.Out), .rt (base + 7) .ro (tr p.Cpu.Regs), .rt (base + 8) .ro (tr p.Mem), .rt (base + 9) .ro (tr p.Fds)] (fun y _ => y = .v (.bool (waitsP u p))) := by
 refine Con.of_body Tryz.func76 rfl (by simp) ?_
 rw [Tryz.ntmps76]
 refine AW.len (base + 1) [] rfl (by simp [Okp]) rfl (fun hl => ?_)
 have hpb := hb.procs
 refine AW.seq (AW.region ?_)
 refine sp (Stp.boxB rfl (by decide) (by decide) rfl rfl rfl rfl) ?_
 refine nm ?_
 refine sp (Stp.boxB rfl (by decide) (by decide) rfl rfl rfl rfl) ?_
 refine nm ?_
 refine qq Qt.assign ?_
 refine nl ?_
 refine AW.seq (AW.region ?_)
 refine qq Qt.assign ?_
 refine nl ?_
 refine AW.seq (AW.seq (AW.region ?_))
 refine qq (fA fl38_3) ?_
 refine nm ?_
 refine qq (Qt.load1 rfl rfl rfl ag33) ?_
 refine qq (Qt.lenH rfl rfl rfl sl33) ?_
 refine qq Qt.move ?_
 refine nl ?_
 refine AW.block ?_
 refine AW.weak (L' := [.sl 11 (.v (iv (0 : Nat))), .sl 5 (.v (.bool (decide (0 < kidsN u p (0 : Nat))))), .rt 3 .box (T.s 10 1 fun k c => ([(T.v (iv p.Pid), none), (T.v (iv p.Parent), none), (T.v (iv p.State), none), (T.v (iv p.Prog), none), (T.v (iv p.Cpu.Pc), none), (T.j, none), (T.j, none), (T.j, none), (T.v (iv p.Until), none), (T.v (iv p.Code), none)].getD (k * 10 + c) (T.j, none)).fst), .al 3 5 (.h (base + 7) []), .al 3 6 (.h (base + 8) []), .al 3 7 (.h (base + 9) []), .rt (base + 7) .ro (tr p.Cpu.Regs), .rt (base + 8) .ro (tr p.Mem), .rt (base + 9) .ro (tr p.Fds), .sl 3 (.p 3 [] 10 0 0), .sl 9 (.h (base + 1) []), .sl 10 (.v (iv u.Procs.length)), .rt base .ro (tr u.Progs), .rt (base + 1) .ro (tr u.Procs), .rt (base + 2) .ro (tr u.Opens), .rt (base + 3) .ro (tr u.Pipes), .rt (base + 4) .ro (tr u.Files), .rt (base + 5) .ro (tr u.Ready), .rt (base + 6) .ro (tr u.Out)]) (Weak.sim ⟨rfl, rfl, ⟨_, rfl, T.sim_refl _⟩, ⟨rfl, rfl⟩, ⟨rfl, rfl⟩, ⟨rfl, rfl⟩, ⟨_, rfl, T.sim_refl _⟩, ⟨_, rfl, T.sim_refl _⟩, ⟨_, rfl, T.sim_refl _⟩, rfl, rfl, rfl, ⟨_, rfl, T.sim_refl _⟩, ⟨_, rfl, T.sim_refl _⟩, ⟨_, rfl, T.sim_refl _⟩, ⟨_, rfl, T.sim_refl _⟩, ⟨_, rfl, T.sim_refl _⟩, ⟨_, rfl, T.sim_refl _⟩, ⟨_, rfl, T.sim_refl _⟩, trivial⟩ rfl rfl) ?_
 refine AW.loop (fun i : WtInv u p => [.sl 11 (.v (iv i.k)), .sl 5 (.v (.bool (decide (0 < kidsN u p i.k)))), .rt 3 .box (T.s 10 1 fun k c => ([(T.v (iv p.Pid), none), (T.v (iv p.Parent), none), (T.v (iv p.State), none), (T.v (iv p.Prog), none), (T.v (iv p.Cpu.Pc), none), (T.j, none), (T.j, none), (T.j, none), (T.v (iv p.Until), none), (T.v (iv p.Code), none)].getD (k * 10 + c) (T.j, none)).fst), .al 3 5 (.h (base + 7) []), .al 3 6 (.h (base + 8) []), .al 3 7 (.h (base + 9) []), .rt (base + 7) .ro (tr p.Cpu.Regs), .rt (base + 8) .ro (tr p.Mem), .rt (base + 9) .ro (tr p.Fds), .sl 3 (.p 3 [] 10 0 0), .sl 9 (.h (base + 1) []), .sl 10 (.v (iv u.Procs.length)), .rt base .ro (tr u.Progs), .rt (base + 1) .ro (tr u.Procs), .rt (base + 2) .ro (tr u.Opens), .rt (base + 3) .ro (tr u.Pipes), .rt (base + 4) .ro (tr u.Files), .rt (base + 5) .ro (tr u.Ready), .rt (base + 6) .ro (tr u.Out)]) (fun i => u.Procs.length - i.k) ⟨0, Nat.zero_le _, rfl⟩ ?_
 intro i
 have hle := i.le
 have hk1 := kidsN_le u p i.k
 have hs1 := kidsN_succ u p i.k
 have hs2 := deadN_succ u p i.k
 have hd := i.h
 refine AW.seq (AW.region ?_)
 refine qq (Qt.binOp rfl rfl rfl) ?_
 refine nl ?_
 refine AW.seq ?_
 refine AW.cond rfl (fun c1 => ?_) (fun c1 => ?_)
 ·have k1 := c1
  try simp only [cnd] at c1
  refine jd (AW.seq (AW.block (AW.seq (AW.region ?_))))
  refine qq (Qt.indexAddr rfl rfl rfl rfl sl33 sz97 (by decide) (by first | omega | grind only)) ?_
  refine nm ?_
  refine qq (Qt.loadG rfl rfl rfl ag97 sz97 (by decide)) ?_
  refine sp (Stp.alloc rfl (by decide) (by decide)) ?_
  refine nm ?_
  refine ss ?_
  refine nl ?_
  refine AW.seq (AW.region ?_)
  refine qq (fA fl97_1) ?_
  refine nm ?_
  refine qq (Qt.load1 rfl rfl rfl ag3) ?_
  refine qq (fA fl97_0) ?_
  refine qq (Qt.load1 rfl rfl rfl ag3) ?_
  refine nm ?_
  refine qq (Qt.binOp rfl rfl rfl) ?_
  refine nl ?_
  refine AW.cond rfl (fun c2 => ?_) (fun c2 => ?_)
  ·have k2 := c2
   try simp only [cnd] at c2
   refine AW.seq (AW.region ?_)
   refine qq Qt.assign ?_
   refine nl ?_
   refine AW.seq (AW.region ?_)
   refine qq (fA fl97_2) ?_
   refine nm ?_
   refine qq (Qt.load1 rfl rfl rfl ag3) ?_
   refine qq (Qt.binOp rfl rfl rfl) ?_
   refine nl ?_
   refine AW.cond rfl (fun c3 => ?_) (fun c3 => ?_)
   ·have k3 := c3
    try simp only [cnd] at c3
    refine AW.seq (AW.region ?_)
    refine qq Qt.assign ?_
    refine nl ?_
    refine AW.ret (endQ_ret (.cons (.tmp 4) .nil) ?_)
    rw [show waitsP u p = false from waits_dead (k := i.k) (by omega) (by rw [hs2]; grind only)]
    rfl
   have k3 := c3
   try simp only [cnd] at c3
   refine jd (AW.region ?_)
   refine qq (Qt.binOp rfl rfl (by first | exact pbAdd (by omega) | rfl)) ?_
   refine nm ?_
   refine qq Qt.move ?_
   refine nl ?_
   refine ⟨⟨i.k + 1, by omega, by rw [hs2]; grind only⟩, Weak.sim ⟨(by simp only [slotL, reduceIte, Nat.reduceEqDiff]; first | rfl | (rw [IntWalk.i64_in _ (by omega)]; rfl)), by simp only [slotL, reduceIte, Nat.reduceEqDiff]; congr 2; rw [hs1]; grind only, ⟨_, rfl, T.sim_refl _⟩, ⟨rfl, rfl⟩, ⟨rfl, rfl⟩, ⟨rfl, rfl⟩, ⟨_, rfl, T.sim_refl _⟩, ⟨_, rfl, T.sim_refl _⟩, ⟨_, rfl, T.sim_refl _⟩, rfl, rfl, rfl, ⟨_, rfl, T.sim_refl _⟩, ⟨_, rfl, T.sim_refl _⟩, ⟨_, rfl, T.sim_refl _⟩, ⟨_, rfl, T.sim_refl _⟩, ⟨_, rfl, T.sim_refl _⟩, ⟨_, rfl, T.sim_refl _⟩, ⟨_, rfl, T.sim_refl _⟩, trivial⟩ rfl rfl, ?_⟩
   show u.Procs.length - (i.k + 1) < u.Procs.length - i.k
   omega
  have k2 := c2
  try simp only [cnd] at c2
  refine jd (AW.region ?_)
  refine qq (Qt.binOp rfl rfl (by first | exact pbAdd (by omega) | rfl)) ?_
  refine qq Qt.move ?_
  refine nl ?_
  refine ⟨⟨i.k + 1, by omega, by rw [hs2]; grind only⟩, Weak.sim ⟨(by simp only [slotL, reduceIte, Nat.reduceEqDiff]; first | rfl | (rw [IntWalk.i64_in _ (by omega)]; rfl)), by simp only [slotL, reduceIte, Nat.reduceEqDiff]; congr 2; rw [hs1]; grind only, ⟨_, rfl, T.sim_refl _⟩, ⟨rfl, rfl⟩, ⟨rfl, rfl⟩, ⟨rfl, rfl⟩, ⟨_, rfl, T.sim_refl _⟩, ⟨_, rfl, T.sim_refl _⟩, ⟨_, rfl, T.sim_refl _⟩, rfl, rfl, rfl, ⟨_, rfl, T.sim_refl _⟩, ⟨_, rfl, T.sim_refl _⟩, ⟨_, rfl, T.sim_refl _⟩, ⟨_, rfl, T.sim_refl _⟩, ⟨_, rfl, T.sim_refl _⟩, ⟨_, rfl, T.sim_refl _⟩, ⟨_, rfl, T.sim_refl _⟩, trivial⟩ rfl rfl, ?_⟩
  show u.Procs.length - (i.k + 1) < u.Procs.length - i.k
  omega
 have k1 := c1
 try simp only [cnd] at c1
 refine AW.exit ?_
 dsimp only [thenQ, blockQ, reduceIte]
 refine AW.seq (AW.region ?_)
 refine qq Qt.move ?_
 refine nm ?_
 refine qq Qt.assign ?_
 refine nl ?_
 refine AW.ret (endQ_ret (.cons (.tmp 4) .nil) ?_)
 rw [show waitsP u p = decide (0 < kidsN u p i.k) from waits_end i.h (by omega)]
 rfl
set_option maxHeartbeats 8000000 in
set_option maxRecDepth 10000 in
theorem endless1_con (other pipe : Int) (o : DOpen) : Con Tryz.prog 204 [.g [.v (iv o.Id), .v (iv o.Kind), .v (iv o.Target), .v (iv o.Off), .v (iv o.Refs)], .p base [] 1 0 0, .p (base + 1) [] 1 0 0] [.rt base .ro (tr [other]), .rt (base + 1) .ro (tr [pipe])] (fun y _ => y = .v (.bool (isOther other pipe o))) := by
 refine Con.of_body Tryz.func204 rfl (by simp) ?_
 rw [Tryz.ntmps204]
 refine AW.seq (AW.region ?_)
 refine sp (Stp.boxB rfl (by decide) (by decide) rfl rfl rfl rfl) ?_
 refine nm ?_
 refine qq Qt.assign ?_
 refine nl ?_
 refine AW.seq (AW.region ?_)
 refine qq (fA fl109_1) ?_
 refine qq (Qt.load1 rfl rfl rfl ag3) ?_
 refine nm ?_
 refine qq (Qt.load1 rfl rfl rfl ag3) ?_
 refine qq (Qt.binOp rfl rfl rfl) ?_
 refine qq Qt.move ?_
 refine nm ?_
 apply AWL.cut 4
 ·intro Kg1
  refine AWL.split 9 rfl (fun g1 => ?_) (fun g1 => ?_)
  ·refine AWL.q rfl g1 rfl (by decide) (fA fl109_2) ?_
   refine AWL.q rfl g1 rfl (by decide) (Qt.load1 rfl rfl rfl ag3) ?_
   refine AWL.q rfl g1 rfl (by decide) (Qt.load1 rfl rfl rfl ag3) ?_
   refine nm ?_
   refine AWL.q rfl g1 rfl (by decide) (Qt.binOp rfl rfl rfl) ?_
   exact AWL.weak (Weak.join (d := 13) (ds := [10, 11, 12, 13]) rfl (ifT g1 _ undef) (by simp only [go_sem, Int.reduceToNat, Nat.reduceLT, reduceIte, Nat.reduceEqDiff, Nat.reduceAdd, Nat.reduceMul, Nat.reduceBEq, reduceCtorEq]; rfl)) Kg1
  ·refine AWL.out rfl g1 rfl (by decide) ?_
   refine AWL.out rfl g1 rfl (by decide) ?_
   refine AWL.out rfl g1 rfl (by decide) ?_
   refine AWL.out rfl g1 rfl (by decide) ?_
   exact AWL.weak (Weak.join (d := 13) (ds := [10, 11, 12, 13]) rfl (ifF g1 undef _) (by simp only [go_sem, Int.reduceToNat, Nat.reduceLT, reduceIte, Nat.reduceEqDiff, Nat.reduceAdd, Nat.reduceMul, Nat.reduceBEq, reduceCtorEq])) Kg1
 refine qq (Qt.pickAnd rfl rfl rfl) ?_
 refine qq Qt.assign ?_
 refine nl ?_
 refine AW.ret (endQ_ret (.cons (.tmp 4) .nil) ?_)
 rfl
set_option maxHeartbeats 8000000 in
set_option maxRecDepth 10000 in
theorem ixO2_con {fid : FuncId} {p : DOpen → Bool} (u0 : Int) (u1 : Int) (hE : Ent Tryz.prog fid) (hp : ∀ x : DOpen, Con Tryz.prog fid [.g [.v (iv x.Id), .v (iv x.Kind), .v (iv x.Target), .v (iv x.Off), .v (iv x.Refs)], .p base [] 1 0 0, .p (base + 1) [] 1 0 0] [.rt base .ro (tr [u0]), .rt (base + 1) .ro (tr [u1])] (fun y _ => y = .v (.bool (p x)))) (l : List DOpen) : Con Tryz.prog 284 [.h base [], .f fid [.p (base + 1) [] 1 0 0, .p (base + 2) [] 1 0 0]] [.rt base .ro (tr l), .rt (base + 1) .ro (tr [u0]), .rt (base + 2) .ro (tr [u1])] (fun y _ => y = .v (iv (ixOf p l))) := by
 refine Con.of_body Tryz.func284 rfl (by simp) ?_
 rw [Tryz.ntmps284]
 refine AW.len base [] rfl (by simp [Okp]) rfl (fun hl => ?_)
 refine AW.seq (AW.region ?_)
 refine qq Qt.assign ?_
 refine nl ?_
 refine AW.seq (AW.seq (AW.region ?_))
 refine qq Qt.move ?_
 refine qq (Qt.lenH rfl rfl rfl sl34) ?_
 refine nm ?_
 refine qq Qt.move ?_
 refine nl ?_
 refine AW.block ?_
 refine AW.weak (L' := [.sl 8 (.v (iv (0 : Nat))), .sl 7 (.v (iv l.length)), .sl 0 (.h base []), .sl 1 (.f fid [.p (base + 1) [] 1 0 0, .p (base + 2) [] 1 0 0]), .rt base .ro (tr l), .rt (base + 1) .ro (tr [u0]), .rt (base + 2) .ro (tr [u1])]) (Weak.sim ⟨rfl, rfl, rfl, rfl, ⟨_, rfl, T.sim_refl _⟩, ⟨_, rfl, T.sim_refl _⟩, ⟨_, rfl, T.sim_refl _⟩, trivial⟩ rfl rfl) ?_
 refine AW.loop (fun i : IxInv p l => [.sl 8 (.v (iv i.k)), .sl 7 (.v (iv l.length)), .sl 0 (.h base []), .sl 1 (.f fid [.p (base + 1) [] 1 0 0, .p (base + 2) [] 1 0 0]), .rt base .ro (tr l), .rt (base + 1) .ro (tr [u0]), .rt (base + 2) .ro (tr [u1])]) (fun i => l.length - i.k) ⟨0, Nat.zero_le _, rfl⟩ ?_
 intro i
 have hle := i.le
 refine AW.seq (AW.region ?_)
 refine qq (Qt.binOp rfl rfl rfl) ?_
 refine nl ?_
 refine AW.seq ?_
 refine AW.cond rfl (fun c1 => ?_) (fun c1 => ?_)
 ·have k1 := c1
  try simp only [cnd] at c1
  refine jd (AW.seq (AW.block (AW.seq (AW.region ?_))))
  refine qq Qt.move ?_
  refine nm ?_
  refine qq Qt.assign ?_
  refine nl ?_
  refine AW.seq (AW.region ?_)
  refine qq Qt.move ?_
  refine qq Qt.move ?_
  refine nm ?_
  refine qq Qt.move ?_
  refine qq (Qt.indexAddr rfl rfl rfl rfl sl34 sz109 (by decide) (by omega)) ?_
  refine qq (Qt.loadG rfl rfl rfl ag109 sz109 (by decide)) ?_
  refine nm ?_
  refine cv hE rfl rfl (Con.simH (hp (l.getD i.k En.dflt)) ⟨⟨_, rfl, (sim_one (fun c hc => match c, hc with | 0, _ => T.sim_refl _ | c + 1, hc => absurd hc (by simp only [En.n]; omega)))⟩, ⟨_, rfl, (sim_one (fun c hc => match c, hc with | 0, _ => T.sim_refl _ | c + 1, hc => absurd hc (by simp only [En.n]; omega)))⟩, trivial⟩ rfl rfl rfl) ?_
  refine nl ?_
  refine AW.cond rfl (fun c2 => ?_) (fun c2 => ?_)
  ·have k2 := c2
   try simp only [cnd] at c2
   refine AW.seq (AW.region ?_)
   refine qq Qt.move ?_
   refine nm ?_
   refine qq Qt.assign ?_
   refine nl ?_
   refine AW.ret (endQ_ret (.cons (.tmp 4) .nil) ?_)
   rw [ixOf_hit i En.dflt (by omega) c2]
   rfl
  have k2 := c2
  try simp only [cnd] at c2
  refine jd (AW.region ?_)
  refine qq (Qt.binOp rfl rfl (by first | exact pbAdd (by omega) | rfl)) ?_
  refine qq Qt.move ?_
  refine nl ?_
  refine ⟨⟨i.k + 1, by omega, i.next En.dflt (by omega) c2⟩, Weak.sim ⟨(by simp only [slotL, reduceIte, Nat.reduceEqDiff]; first | rfl | (rw [IntWalk.i64_in _ (by omega)]; rfl)), rfl, rfl, rfl, ⟨_, rfl, T.sim_refl _⟩, ⟨_, rfl, T.sim_refl _⟩, ⟨_, rfl, T.sim_refl _⟩, trivial⟩ rfl rfl, ?_⟩
  show l.length - (i.k + 1) < l.length - i.k
  omega
 have k1 := c1
 try simp only [cnd] at c1
 refine AW.exit ?_
 dsimp only [thenQ, blockQ, reduceIte]
 refine AW.seq (AW.region ?_)
 refine qq Qt.assign ?_
 refine nl ?_
 refine AW.ret (endQ_ret (.cons (.tmp 4) .nil) ?_)
 rw [ixOf_none i (by omega)]
 rfl
set_option maxHeartbeats 8000000 in
set_option maxRecDepth 10000 in
theorem hasO2_con {fid : FuncId} {p : DOpen → Bool} (u0 : Int) (u1 : Int) (hE : Ent Tryz.prog fid) (hp : ∀ x : DOpen, Con Tryz.prog fid [.g [.v (iv x.Id), .v (iv x.Kind), .v (iv x.Target), .v (iv x.Off), .v (iv x.Refs)], .p base [] 1 0 0, .p (base + 1) [] 1 0 0] [.rt base .ro (tr [u0]), .rt (base + 1) .ro (tr [u1])] (fun y _ => y = .v (.bool (p x)))) (l : List DOpen) : Con Tryz.prog 191 [.h base [], .f fid [.p (base + 1) [] 1 0 0, .p (base + 2) [] 1 0 0]] [.rt base .ro (tr l), .rt (base + 1) .ro (tr [u0]), .rt (base + 2) .ro (tr [u1])] (fun y _ => y = .v (.bool (l.any p))) := by
 refine Con.of_body Tryz.func191 rfl (by simp) ?_
 rw [Tryz.ntmps191]
 refine AW.seq (AW.region ?_)
 refine qq Qt.assign ?_
 refine nl ?_
 refine AW.seq (AW.region ?_)
 refine qq Qt.move ?_
 refine qq Qt.move ?_
 refine nm ?_
 refine cv Tryz.call284 rfl rfl (Con.simH (ixO2_con u0 u1 hE hp l) ⟨⟨_, rfl, T.sim_refl _⟩, ⟨_, rfl, (sim_one (fun c hc => match c, hc with | 0, _ => T.sim_refl _ | c + 1, hc => absurd hc (by simp only [En.n]; omega)))⟩, ⟨_, rfl, (sim_one (fun c hc => match c, hc with | 0, _ => T.sim_refl _ | c + 1, hc => absurd hc (by simp only [En.n]; omega)))⟩, trivial⟩ rfl rfl rfl) ?_
 refine nm ?_
 refine qq (Qt.binOp rfl rfl rfl) ?_
 refine qq Qt.assign ?_
 refine nl ?_
 refine AW.ret (endQ_ret (.cons (.tmp 4) .nil) ?_)
 rw [← ixOf_ge]
 rfl
set_option maxHeartbeats 8000000 in
set_option maxRecDepth 10000 in
theorem endlessI_con (u : DUnix) (p : DProc) (kind other data : Int) : Con Tryz.prog 77 [.g [.v (iv u.Next), .v (iv u.Tick), .h base [], .h (base + 1) [], .h (base + 2) [], .h (base + 3) [], .h (base + 4) [], .h (base + 5) [], .h (base + 6) []], .g [.v (iv p.Pid), .v (iv p.Parent), .v (iv p.State), .v (iv p.Prog), .v (iv p.Cpu.Pc), .h (base + 7) [], .h (base + 8) [], .h (base + 9) [], .v (iv p.Until), .v (iv p.Code)], .v (iv kind), .v (iv other), .v (iv data)] [.rt base .ro (tr u.Progs), .rt (base + 1) .ro (tr u.Procs), .rt (base + 2) .ro (tr u.Opens), .rt (base + 3) .ro (tr u.Pipes), .rt (base + 4) .ro (tr u.Files), .rt (base + 5) .ro (tr u.Ready), .rt (base + 6) .ro (tr u.Out), .rt (base + 7) .ro (tr p.Cpu.Regs), .rt (base + 8) .ro (tr p.Mem), .rt (base + 9) .ro (tr p.Fds)] (fun y _ => y = .v (.bool (endless u p kind other data))) := by
 refine Con.of_body Tryz.func77 rfl (by simp) ?_
 rw [Tryz.ntmps77]
 refine AW.len (base + 2) [] rfl (by simp [Okp]) rfl (fun hl => ?_)
 have hOb : openAt u p.Until < u.Opens.length := (ixOf_bd _ _).2
 have hP2 : pipeAt u (u.Opens.getD (openAt u p.Until).toNat En.dflt).Target < u.Pipes.length := (ixOf_bd _ _).2
 refine AW.seq (AW.region ?_)
 refine sp (Stp.boxB rfl (by decide) (by decide) rfl rfl rfl rfl) ?_
 refine nm ?_
 refine sp (Stp.boxB rfl (by decide) (by decide) rfl rfl rfl rfl) ?_
 refine nm ?_
 refine sp (Stp.boxB rfl (by decide) (by decide) rfl rfl rfl rfl) ?_
 refine nm ?_
 refine qq Qt.assign ?_
 refine nl ?_
 refine AW.seq (AW.region ?_)
 refine qq (Qt.loadG rfl rfl rfl ag38 sz38 (by decide)) ?_
 refine qq (fA fl97_7) ?_
 refine nm ?_
 refine qq (Qt.load1 rfl rfl rfl ag3) ?_
 refine cv Tryz.call186 rfl rfl (openAtI_con u _) ?_
 refine nm ?_
 refine qq Qt.assign ?_
 refine nl ?_
 refine AW.seq (AW.seq (AW.region ?_))
 refine qq Qt.move ?_
 refine qq (Qt.binOp rfl rfl rfl) ?_
 refine nm ?_
 refine qq Qt.move ?_
 apply AWL.cut 6
 ·intro Kg1
  refine AWL.splitF 20 rfl (fun g1 => ?_) (fun g1 => ?_)
  ·refine AWL.q rfl (nF g1) rfl (by decide) (fA fl97_6) ?_
   refine AWL.q rfl (nF g1) rfl (by decide) (Qt.load1 rfl rfl rfl ag27) ?_
   refine nm ?_
   refine AWL.q rfl (nF g1) rfl (by decide) (fA fl97_7) ?_
   refine AWL.q rfl (nF g1) rfl (by decide) (Qt.load1 rfl rfl rfl ag3) ?_
   refine AWL.step rfl (nF g1) (Stp.callV rfl (by decide) Tryz.call203 rfl rfl (containsI_con _ _)) ?_
   refine nm ?_
   refine AWL.q rfl (nF g1) rfl (by decide) (Qt.notB rfl) ?_
   exact AWL.weak (Weak.join (d := 26) (ds := [21, 22, 23, 24, 25, 26]) rfl (ifF g1 _ undef) (by simp only [go_sem, Int.reduceToNat, Nat.reduceLT, reduceIte, Nat.reduceEqDiff, Nat.reduceAdd, Nat.reduceMul, Nat.reduceBEq, reduceCtorEq]; rfl)) Kg1
  ·refine AWL.out rfl (nT g1) rfl (by decide) ?_
   refine AWL.out rfl (nT g1) rfl (by decide) ?_
   refine AWL.out rfl (nT g1) rfl (by decide) ?_
   refine AWL.out rfl (nT g1) rfl (by decide) ?_
   refine nm ?_
   refine AWL.out rfl (nT g1) rfl (by decide) ?_
   refine AWL.out rfl (nT g1) rfl (by decide) ?_
   exact AWL.weak (Weak.join (d := 26) (ds := [21, 22, 23, 24, 25, 26]) rfl (ifT g1 undef _) (by simp only [go_sem, Int.reduceToNat, Nat.reduceLT, reduceIte, Nat.reduceEqDiff, Nat.reduceAdd, Nat.reduceMul, Nat.reduceBEq, reduceCtorEq])) Kg1
 refine qq (Qt.pickOr rfl rfl rfl) ?_
 refine qq Qt.move ?_
 refine nm ?_
 apply AWL.cut 8
 ·intro Kg2
  refine AWL.splitF 28 rfl (fun g2 => ?_) (fun g2 => ?_)
  ·refine AWL.q rfl (nF g2) rfl (by decide) (fA fl38_4) ?_
   refine AWL.q rfl (nF g2) rfl (by decide) (Qt.load1 rfl rfl rfl ag34) ?_
   refine AWL.q rfl (nF g2) rfl (by decide) Qt.move ?_
   refine nm ?_
   refine AWL.q rfl (nF g2) rfl (by decide) (Qt.indexAddr rfl rfl rfl rfl sl34 sz109 (by decide) (by first | omega | grind only)) ?_
   refine AWL.q rfl (nF g2) rfl (by decide) (fA fl109_1) ?_
   refine AWL.q rfl (nF g2) rfl (by decide) (Qt.load1 rfl rfl rfl ag3) ?_
   refine nm ?_
   refine AWL.q rfl (nF g2) rfl (by decide) Qt.move ?_
   refine AWL.q rfl (nF g2) rfl (by decide) (Qt.binOp rfl rfl rfl) ?_
   exact AWL.weak (Weak.join (d := 36) (ds := [29, 30, 31, 32, 33, 34, 35, 36]) rfl (ifF g2 _ undef) (by simp only [go_sem, Int.reduceToNat, Nat.reduceLT, reduceIte, Nat.reduceEqDiff, Nat.reduceAdd, Nat.reduceMul, Nat.reduceBEq, reduceCtorEq]; rfl)) Kg2
  ·refine AWL.out rfl (nT g2) rfl (by decide) ?_
   refine AWL.out rfl (nT g2) rfl (by decide) ?_
   refine AWL.out rfl (nT g2) rfl (by decide) ?_
   refine AWL.out rfl (nT g2) rfl (by decide) ?_
   refine nm ?_
   refine AWL.out rfl (nT g2) rfl (by decide) ?_
   refine AWL.out rfl (nT g2) rfl (by decide) ?_
   refine AWL.out rfl (nT g2) rfl (by decide) ?_
   refine AWL.out rfl (nT g2) rfl (by decide) ?_
   exact AWL.weak (Weak.join (d := 36) (ds := [29, 30, 31, 32, 33, 34, 35, 36]) rfl (ifT g2 undef _) (by simp only [go_sem, Int.reduceToNat, Nat.reduceLT, reduceIte, Nat.reduceEqDiff, Nat.reduceAdd, Nat.reduceMul, Nat.reduceBEq, reduceCtorEq])) Kg2
 refine qq (Qt.pickOr rfl rfl rfl) ?_
 refine nl ?_
 refine AW.cond rfl (fun c3 => ?_) (fun c3 => ?_)
 ·have k3 := c3
  try simp only [cnd] at c3
  refine AW.seq (AW.region ?_)
  refine qq Qt.assign ?_
  refine nl ?_
  refine AW.ret (endQ_ret (.cons (.tmp 10) .nil) ?_)
  simp only [retX, slotL, reduceIte, Nat.reduceEqDiff]
  congr 2
  simp only [endless, openX, pipeX]
  grind only
 have k3 := c3
 try simp only [cnd] at c3
 refine jd (AW.seq (AW.region ?_))
 refine qq (fA fl38_4) ?_
 refine nm ?_
 refine qq (Qt.load1 rfl rfl rfl ag34) ?_
 refine qq Qt.move ?_
 refine qq (Qt.indexAddr rfl rfl rfl rfl sl34 sz109 (by decide) (by first | omega | grind only)) ?_
 refine nm ?_
 refine qq (fA fl109_2) ?_
 refine qq (Qt.load1 rfl rfl rfl ag3) ?_
 refine sp (Stp.alloc rfl (by decide) (by decide)) ?_
 refine nm ?_
 refine ss ?_
 refine nl ?_
 refine AW.seq (AW.region ?_)
 refine qq (Qt.loadG rfl rfl rfl ag38 sz38 (by decide)) ?_
 refine nm ?_
 refine qq (Qt.load1 rfl rfl rfl ag3) ?_
 refine cv Tryz.call190 rfl rfl (pipeAtI_con u _) ?_
 refine nm ?_
 refine qq Qt.assign ?_
 refine nl ?_
 refine AW.seq (AW.region ?_)
 refine qq Qt.move ?_
 refine qq (Qt.binOp rfl rfl rfl) ?_
 refine nm ?_
 refine qq Qt.move ?_
 apply AWL.cut 9
 ·intro Kg4
  refine AWL.split 49 rfl (fun g4 => ?_) (fun g4 => ?_)
  ·refine AWL.q rfl g4 rfl (by decide) (fA fl38_5) ?_
   refine AWL.q rfl g4 rfl (by decide) (Qt.load1 rfl rfl rfl ag35) ?_
   refine nm ?_
   refine AWL.q rfl g4 rfl (by decide) Qt.move ?_
   refine AWL.q rfl g4 rfl (by decide) (Qt.indexAddr rfl rfl rfl rfl sl35 sz128 (by decide) (by first | omega | grind only)) ?_
   refine AWL.q rfl g4 rfl (by decide) (fA fl128_1) ?_
   refine nm ?_
   refine AWL.q rfl g4 rfl (by decide) (Qt.load1 rfl rfl rfl ag27) ?_
   refine AWL.q rfl g4 rfl (by decide) (Qt.lenH rfl rfl rfl sl27) ?_
   refine AWL.q rfl g4 rfl (by decide) Qt.move ?_
   refine nm ?_
   refine AWL.q rfl g4 rfl (by decide) (Qt.binOp rfl rfl rfl) ?_
   exact AWL.weak (Weak.join (d := 58) (ds := [50, 51, 52, 53, 54, 55, 56, 57, 58]) rfl (ifT g4 _ undef) (by simp only [go_sem, Int.reduceToNat, Nat.reduceLT, reduceIte, Nat.reduceEqDiff, Nat.reduceAdd, Nat.reduceMul, Nat.reduceBEq, reduceCtorEq]; rfl)) Kg4
  ·refine AWL.out rfl g4 rfl (by decide) ?_
   refine AWL.out rfl g4 rfl (by decide) ?_
   refine AWL.out rfl g4 rfl (by decide) ?_
   refine AWL.out rfl g4 rfl (by decide) ?_
   refine nm ?_
   refine AWL.out rfl g4 rfl (by decide) ?_
   refine AWL.out rfl g4 rfl (by decide) ?_
   refine AWL.out rfl g4 rfl (by decide) ?_
   refine AWL.out rfl g4 rfl (by decide) ?_
   refine nm ?_
   refine AWL.out rfl g4 rfl (by decide) ?_
   exact AWL.weak (Weak.join (d := 58) (ds := [50, 51, 52, 53, 54, 55, 56, 57, 58]) rfl (ifF g4 undef _) (by simp only [go_sem, Int.reduceToNat, Nat.reduceLT, reduceIte, Nat.reduceEqDiff, Nat.reduceAdd, Nat.reduceMul, Nat.reduceBEq, reduceCtorEq])) Kg4
 refine qq (Qt.pickAnd rfl rfl rfl) ?_
 refine qq Qt.move ?_
 refine nm ?_
 apply AWL.cut 4
 ·intro Kg5
  refine AWL.split 60 rfl (fun g5 => ?_) (fun g5 => ?_)
  ·refine AWL.q rfl g5 rfl (by decide) (fA fl38_4) ?_
   refine AWL.q rfl g5 rfl (by decide) (Qt.load1 rfl rfl rfl ag34) ?_
   refine AWL.q rfl g5 rfl (by decide) Qt.makeFunc ?_
   refine nm ?_
   refine AWL.step rfl g5 (Stp.callV rfl (by decide) Tryz.call191 rfl rfl (Con.simH (hasO2_con other (u.Opens.getD (openAt u p.Until).toNat En.dflt).Target Tryz.call204 (fun x => endless1_con other (u.Opens.getD (openAt u p.Until).toNat En.dflt).Target x) u.Opens) ⟨⟨_, rfl, T.sim_refl _⟩, ⟨_, rfl, (sim_one (fun c hc => match c, hc with | 0, _ => T.sim_refl _ | c + 1, hc => absurd hc (by simp only [En.n]; omega)))⟩, ⟨_, rfl, (sim_one (fun c hc => match c, hc with | 0, _ => T.sim_refl _ | c + 1, hc => absurd hc (by simp only [En.n]; omega)))⟩, trivial⟩ rfl rfl rfl)) ?_
   refine nm ?_
   exact AWL.weak (Weak.join (d := 64) (ds := [61, 62, 63, 64]) rfl (ifT g5 _ undef) (by simp only [go_sem, Int.reduceToNat, Nat.reduceLT, reduceIte, Nat.reduceEqDiff, Nat.reduceAdd, Nat.reduceMul, Nat.reduceBEq, reduceCtorEq]; rfl)) Kg5
  ·refine AWL.out rfl g5 rfl (by decide) ?_
   refine AWL.out rfl g5 rfl (by decide) ?_
   refine AWL.out rfl g5 rfl (by decide) ?_
   refine AWL.out rfl g5 rfl (by decide) ?_
   exact AWL.weak (Weak.join (d := 64) (ds := [61, 62, 63, 64]) rfl (ifF g5 undef _) (by simp only [go_sem, Int.reduceToNat, Nat.reduceLT, reduceIte, Nat.reduceEqDiff, Nat.reduceAdd, Nat.reduceMul, Nat.reduceBEq, reduceCtorEq])) Kg5
 refine qq (Qt.pickAnd rfl rfl rfl) ?_
 refine qq Qt.assign ?_
 refine nl ?_
 refine AW.ret (endQ_ret (.cons (.tmp 10) .nil) ?_)
 simp only [retX, slotL, reduceIte, Nat.reduceEqDiff]
 congr 2
 simp only [endless, openX, pipeX]
 grind only
end Go.Proofs.YtimmbmphfgnelaaGreat.VM
