/- Contracts of functions of the program. No conditions beyond those that each states. -/
import Derived.Test.YtimmbmphfgnelaaGreatCZF
import Derived.Test.YtimmbmphfgnelaaGreatCZJ
import Derived.Test.YtimmbmphfgnelaaGreatCZK
set_option linter.all false
namespace Go.Proofs.YtimmbmphfgnelaaGreat.VM
open Go Go.RowKit Go.Proofs
set_option maxHeartbeats 8000000 in
set_option maxRecDepth 10000 in
theorem SoundS_con (u : DUnix) (hb : unixB u) : Con Tryz.prog 19 [.g [.v (iv u.Next), .v (iv u.Tick), .h base [], .h (base + 1) [], .h (base + 2) [], .h (base + 3) [], .h (base + 4) [], .h (base + 5) [], .h (base + 6) []]] [.rt base .ro (tr u.Progs), .rt (base + 1) .ro (tr u.Procs), .rt (base + 2) .ro (tr u.Opens), .rt (base + 3) .ro (tr u.Pipes), .rt (base + 4) .ro (tr u.Files), .rt (base + 5) .ro (tr u.Ready), .rt (base + 6) .ro (tr u.Out)] (fun y _ => y = .v (.bool (soundU u))) := by
 refine Con.of_body Tryz.func19 rfl (by simp) ?_
 rw [Tryz.ntmps19]
 refine AW.len (base + 1) [] rfl (by simp [Okp]) rfl (fun hl => ?_)
 have hSS : unixOk u = true → u.Procs.all (soundS u) = u.Procs.all (soundP u) := sound_same
 refine AW.seq (AW.region ?_)
 refine sp (Stp.boxB rfl (by decide) (by decide) rfl rfl rfl rfl) ?_
 refine nm ?_
 refine qq Qt.assign ?_
 refine nl ?_
 refine AW.seq (AW.seq (AW.region ?_))
 refine qq (Qt.loadG rfl rfl rfl ag38 sz38 (by decide)) ?_
 refine cv Tryz.call11 rfl rfl (UnixOkS_con _ hb) ?_
 refine nm ?_
 refine qq (Qt.notB rfl) ?_
 refine nl ?_
 refine AW.cond rfl (fun c1 => ?_) (fun c1 => ?_)
 ·have k1 := c1
  try simp only [cnd] at c1
  refine AW.seq (AW.region ?_)
  refine qq Qt.assign ?_
  refine nl ?_
  refine AW.ret (endQ_ret (.cons (.tmp 2) .nil) ?_)
  simp only [retX, slotL, reduceIte, Nat.reduceEqDiff]
  congr 2
  simp only [soundU]
  grind only
 have k1 := c1
 try simp only [cnd] at c1
 refine jd (AW.seq (AW.seq (AW.region ?_)))
 refine qq Qt.assign ?_
 refine nl ?_
 refine AW.block ?_
 refine AW.weak (L' := [.sl 3 (.v (iv (0 : Nat))), .rt 1 .box (T.s 9 1 fun k c => ([(T.v (iv u.Next), none), (T.v (iv u.Tick), none), (T.j, none), (T.j, none), (T.j, none), (T.j, none), (T.j, none), (T.j, none), (T.j, none)].getD (k * 9 + c) (T.j, none)).fst), .al 1 2 (.h base []), .al 1 3 (.h (base + 1) []), .al 1 4 (.h (base + 2) []), .al 1 5 (.h (base + 3) []), .al 1 6 (.h (base + 4) []), .al 1 7 (.h (base + 5) []), .al 1 8 (.h (base + 6) []), .rt base .ro (tr u.Progs), .rt (base + 1) .ro (tr u.Procs), .rt (base + 2) .ro (tr u.Opens), .rt (base + 3) .ro (tr u.Pipes), .rt (base + 4) .ro (tr u.Files), .rt (base + 5) .ro (tr u.Ready), .rt (base + 6) .ro (tr u.Out), .sl 1 (.p 1 [] 9 0 0)]) (Weak.sim ⟨rfl, ⟨_, rfl, T.sim_refl _⟩, ⟨rfl, rfl⟩, ⟨rfl, rfl⟩, ⟨rfl, rfl⟩, ⟨rfl, rfl⟩, ⟨rfl, rfl⟩, ⟨rfl, rfl⟩, ⟨rfl, rfl⟩, ⟨_, rfl, T.sim_refl _⟩, ⟨_, rfl, T.sim_refl _⟩, ⟨_, rfl, T.sim_refl _⟩, ⟨_, rfl, T.sim_refl _⟩, ⟨_, rfl, T.sim_refl _⟩, ⟨_, rfl, T.sim_refl _⟩, ⟨_, rfl, T.sim_refl _⟩, rfl, trivial⟩ rfl rfl) ?_
 refine AW.loop (fun i : AllInv (soundS u) u.Procs => [.sl 3 (.v (iv i.k)), .rt 1 .box (T.s 9 1 fun k c => ([(T.v (iv u.Next), none), (T.v (iv u.Tick), none), (T.j, none), (T.j, none), (T.j, none), (T.j, none), (T.j, none), (T.j, none), (T.j, none)].getD (k * 9 + c) (T.j, none)).fst), .al 1 2 (.h base []), .al 1 3 (.h (base + 1) []), .al 1 4 (.h (base + 2) []), .al 1 5 (.h (base + 3) []), .al 1 6 (.h (base + 4) []), .al 1 7 (.h (base + 5) []), .al 1 8 (.h (base + 6) []), .rt base .ro (tr u.Progs), .rt (base + 1) .ro (tr u.Procs), .rt (base + 2) .ro (tr u.Opens), .rt (base + 3) .ro (tr u.Pipes), .rt (base + 4) .ro (tr u.Files), .rt (base + 5) .ro (tr u.Ready), .rt (base + 6) .ro (tr u.Out), .sl 1 (.p 1 [] 9 0 0)]) (fun i => u.Procs.length - i.k) ⟨0, Nat.zero_le _, rfl⟩ ?_
 intro i
 have hle := i.le
 refine AW.seq (AW.seq (AW.region ?_))
 refine qq Qt.move ?_
 refine nm ?_
 refine qq (fA fl38_3) ?_
 refine qq (Qt.load1 rfl rfl rfl ag33) ?_
 refine qq (Qt.lenH rfl rfl rfl sl33) ?_
 refine nm ?_
 refine qq (Qt.binOp rfl rfl rfl) ?_
 refine nl ?_
 refine AW.cond rfl (fun c2 => ?_) (fun c2 => ?_)
 ·have k2 := c2
  try simp only [cnd] at c2
  refine jd (AW.seq (AW.block (AW.seq ?_)))
  refine AW.draw [0, 1, 2, 3, 4, 5, 7] rfl (by decide +kernel) ?_
  refine tk 0 rfl (Qt.loadG rfl rfl rfl ag38 sz38 (by decide)) ?_
  refine tk 1 rfl (fA fl38_3) ?_
  refine na ?_
  refine tk 2 rfl (Qt.load1 rfl rfl rfl ag33) ?_
  refine tk 3 rfl Qt.move ?_
  refine tk 4 rfl (Qt.indexAddr rfl rfl rfl rfl sl33 sz97 (by decide) (by first | omega | grind only)) ?_
  refine na ?_
  refine tk 5 rfl (Qt.loadG rfl rfl rfl ag97 sz97 (by decide)) ?_
  refine AWA.one 6 [] [5, 0, 4, 3, 2, 1] (by decide +kernel) rfl rfl rfl (by decide +kernel) (by decide +kernel) (by decide +kernel) (Stp.callV rfl (by decide) Tryz.call75 rfl rfl (l10Proc_con u _ hb (by grind only) (procsOk_at (unixOk_procs (by grind only)) (by omega)).2)) ?_
  refine na ?_
  refine na ?_
  refine tk 7 rfl (Qt.notB rfl) ?_
  refine nz ?_
  refine AW.cond rfl (fun c3 => ?_) (fun c3 => ?_)
  ·have k3 := c3
   try simp only [cnd] at c3
   have hS := i.stop En.dflt (by omega) (by simpa using k3)
   refine AW.seq (AW.region ?_)
   refine qq Qt.assign ?_
   refine nl ?_
   refine AW.ret (endQ_ret (.cons (.tmp 2) .nil) ?_)
   simp only [retX, slotL, reduceIte, Nat.reduceEqDiff]
   congr 2
   simp only [soundU]
   grind only
  have k3 := c3
  try simp only [cnd] at c3
  refine jd (AW.region ?_)
  refine qq Qt.move ?_
  refine nm ?_
  refine qq (Qt.binOp rfl rfl (by first | exact pbAdd (by omega) | rfl)) ?_
  refine qq Qt.assign ?_
  refine nl ?_
  refine ⟨⟨i.k + 1, by omega, i.next En.dflt (by omega) (by simpa using k3)⟩, Weak.sim ⟨(by simp only [slotL, reduceIte, Nat.reduceEqDiff]; first | rfl | (rw [IntWalk.i64_in _ (by omega)]; rfl)), ⟨_, rfl, T.sim_refl _⟩, ⟨rfl, rfl⟩, ⟨rfl, rfl⟩, ⟨rfl, rfl⟩, ⟨rfl, rfl⟩, ⟨rfl, rfl⟩, ⟨rfl, rfl⟩, ⟨rfl, rfl⟩, ⟨_, rfl, T.sim_refl _⟩, ⟨_, rfl, T.sim_refl _⟩, ⟨_, rfl, T.sim_refl _⟩, ⟨_, rfl, T.sim_refl _⟩, ⟨_, rfl, T.sim_refl _⟩, ⟨_, rfl, T.sim_refl _⟩, ⟨_, rfl, T.sim_refl _⟩, rfl, trivial⟩ rfl rfl, ?_⟩
  show u.Procs.length - (i.k + 1) < u.Procs.length - i.k
  omega
 have k2 := c2
 try simp only [cnd] at c2
 have hF := i.full (by omega)
 refine AW.exit ?_
 dsimp only [thenQ, blockQ, reduceIte]
 refine AW.seq (AW.region ?_)
 refine qq Qt.assign ?_
 refine nl ?_
 refine AW.ret (endQ_ret (.cons (.tmp 2) .nil) ?_)
 simp only [retX, slotL, reduceIte, Nat.reduceEqDiff]
 congr 2
 simp only [soundU]
 grind only
set_option maxHeartbeats 8000000 in
set_option maxRecDepth 10000 in
theorem SoundI_con (u : DUnix) (hb : unixB u) : Con Tryz.prog 20 [.g [.v (iv u.Next), .v (iv u.Tick), .h base [], .h (base + 1) [], .h (base + 2) [], .h (base + 3) [], .h (base + 4) [], .h (base + 5) [], .h (base + 6) []]] [.rt base .ro (tr u.Progs), .rt (base + 1) .ro (tr u.Procs), .rt (base + 2) .ro (tr u.Opens), .rt (base + 3) .ro (tr u.Pipes), .rt (base + 4) .ro (tr u.Files), .rt (base + 5) .ro (tr u.Ready), .rt (base + 6) .ro (tr u.Out)] (fun y _ => y = .v (.bool (soundU u))) := by
 refine Con.of_body Tryz.func20 rfl (by simp) ?_
 rw [Tryz.ntmps20]
 refine AW.len (base + 1) [] rfl (by simp [Okp]) rfl (fun hl => ?_)
 refine AW.seq (AW.region ?_)
 refine sp (Stp.boxB rfl (by decide) (by decide) rfl rfl rfl rfl) ?_
 refine nm ?_
 refine qq Qt.assign ?_
 refine nl ?_
 refine AW.seq (AW.seq (AW.region ?_))
 refine qq (Qt.loadG rfl rfl rfl ag38 sz38 (by decide)) ?_
 refine cv Tryz.call13 rfl rfl (UnixOkI_con _ hb) ?_
 refine nm ?_
 refine qq (Qt.notB rfl) ?_
 refine nl ?_
 refine AW.cond rfl (fun c1 => ?_) (fun c1 => ?_)
 ·have k1 := c1
  try simp only [cnd] at c1
  refine AW.seq (AW.region ?_)
  refine qq Qt.assign ?_
  refine nl ?_
  refine AW.ret (endQ_ret (.cons (.tmp 2) .nil) ?_)
  simp only [retX, slotL, reduceIte, Nat.reduceEqDiff]
  congr 2
  simp only [soundU]
  grind only
 have k1 := c1
 try simp only [cnd] at c1
 refine jd (AW.seq (AW.seq (AW.region ?_)))
 refine qq (fA fl38_3) ?_
 refine nm ?_
 refine qq (Qt.load1 rfl rfl rfl ag33) ?_
 refine qq (Qt.lenH rfl rfl rfl sl33) ?_
 refine qq Qt.move ?_
 refine nl ?_
 refine AW.block ?_
 refine AW.weak (L' := [.sl 12 (.v (iv (0 : Nat))), .rt 1 .box (T.s 9 1 fun k c => ([(T.v (iv u.Next), none), (T.v (iv u.Tick), none), (T.j, none), (T.j, none), (T.j, none), (T.j, none), (T.j, none), (T.j, none), (T.j, none)].getD (k * 9 + c) (T.j, none)).fst), .al 1 2 (.h base []), .al 1 3 (.h (base + 1) []), .al 1 4 (.h (base + 2) []), .al 1 5 (.h (base + 3) []), .al 1 6 (.h (base + 4) []), .al 1 7 (.h (base + 5) []), .al 1 8 (.h (base + 6) []), .rt base .ro (tr u.Progs), .rt (base + 1) .ro (tr u.Procs), .rt (base + 2) .ro (tr u.Opens), .rt (base + 3) .ro (tr u.Pipes), .rt (base + 4) .ro (tr u.Files), .rt (base + 5) .ro (tr u.Ready), .rt (base + 6) .ro (tr u.Out), .sl 1 (.p 1 [] 9 0 0), .sl 10 (.h (base + 1) []), .sl 11 (.v (iv u.Procs.length))]) (Weak.sim ⟨rfl, ⟨_, rfl, T.sim_refl _⟩, ⟨rfl, rfl⟩, ⟨rfl, rfl⟩, ⟨rfl, rfl⟩, ⟨rfl, rfl⟩, ⟨rfl, rfl⟩, ⟨rfl, rfl⟩, ⟨rfl, rfl⟩, ⟨_, rfl, T.sim_refl _⟩, ⟨_, rfl, T.sim_refl _⟩, ⟨_, rfl, T.sim_refl _⟩, ⟨_, rfl, T.sim_refl _⟩, ⟨_, rfl, T.sim_refl _⟩, ⟨_, rfl, T.sim_refl _⟩, ⟨_, rfl, T.sim_refl _⟩, rfl, rfl, rfl, trivial⟩ rfl rfl) ?_
 refine AW.loop (fun i : AllInv (soundP u) u.Procs => [.sl 12 (.v (iv i.k)), .rt 1 .box (T.s 9 1 fun k c => ([(T.v (iv u.Next), none), (T.v (iv u.Tick), none), (T.j, none), (T.j, none), (T.j, none), (T.j, none), (T.j, none), (T.j, none), (T.j, none)].getD (k * 9 + c) (T.j, none)).fst), .al 1 2 (.h base []), .al 1 3 (.h (base + 1) []), .al 1 4 (.h (base + 2) []), .al 1 5 (.h (base + 3) []), .al 1 6 (.h (base + 4) []), .al 1 7 (.h (base + 5) []), .al 1 8 (.h (base + 6) []), .rt base .ro (tr u.Progs), .rt (base + 1) .ro (tr u.Procs), .rt (base + 2) .ro (tr u.Opens), .rt (base + 3) .ro (tr u.Pipes), .rt (base + 4) .ro (tr u.Files), .rt (base + 5) .ro (tr u.Ready), .rt (base + 6) .ro (tr u.Out), .sl 1 (.p 1 [] 9 0 0), .sl 10 (.h (base + 1) []), .sl 11 (.v (iv u.Procs.length))]) (fun i => u.Procs.length - i.k) ⟨0, Nat.zero_le _, rfl⟩ ?_
 intro i
 have hle := i.le
 refine AW.seq (AW.region ?_)
 refine qq (Qt.binOp rfl rfl rfl) ?_
 refine nl ?_
 refine AW.seq ?_
 refine AW.cond rfl (fun c2 => ?_) (fun c2 => ?_)
 ·have k2 := c2
  try simp only [cnd] at c2
  refine jd (AW.seq (AW.block (AW.seq (AW.region ?_))))
  refine qq (Qt.indexAddr rfl rfl rfl rfl sl33 sz97 (by decide) (by first | omega | grind only)) ?_
  refine nm ?_
  refine qq (Qt.loadG rfl rfl rfl ag97 sz97 (by decide)) ?_
  refine sp (Stp.alloc rfl (by decide) (by decide)) ?_
  refine nm ?_
  refine ss ?_
  refine nl ?_
  refine AW.seq (AW.region ?_)
  refine qq Qt.assign ?_
  refine nl ?_
  refine AW.seq (AW.seq (AW.region ?_))
  refine qq (fA fl97_2) ?_
  refine nm ?_
  refine qq (Qt.load1 rfl rfl rfl ag3) ?_
  refine nl ?_
  refine AW.block (AW.seq (AW.region ?_))
  refine qq (Qt.binOp rfl rfl rfl) ?_
  refine qq Qt.assign ?_
  refine nl ?_
  refine AW.cond rfl (fun c3 => ?_) (fun c3 => ?_)
  ·have k3 := c3
   try simp only [cnd] at c3
   refine AW.region ?_
   refine qq (Qt.loadG rfl rfl rfl ag38 sz38 (by decide)) ?_
   refine nm ?_
   refine qq (Qt.loadG rfl rfl rfl ag97 sz97 (by decide)) ?_
   refine cv Tryz.call76 rfl rfl (waits_con u _ hb) ?_
   refine nm ?_
   refine qq Qt.assign ?_
   refine nl ?_
   refine AW.seq (AW.region ?_)
   refine qq Qt.move ?_
   refine qq (Qt.notB rfl) ?_
   refine nl ?_
   refine AW.cond rfl (fun c4 => ?_) (fun c4 => ?_)
   ·have k4 := c4
    try simp only [cnd] at c4
    have hS := i.stop En.dflt (by omega) (show soundP u (u.Procs.getD i.k En.dflt) = false by simp only [soundP]; grind only)
    refine AW.seq (AW.region ?_)
    refine qq Qt.assign ?_
    refine nl ?_
    refine AW.ret (endQ_ret (.cons (.tmp 2) .nil) ?_)
    simp only [retX, slotL, reduceIte, Nat.reduceEqDiff]
    congr 2
    simp only [soundU]
    grind only
   have k4 := c4
   try simp only [cnd] at c4
   refine jd (AW.region ?_)
   refine qq (Qt.binOp rfl rfl (by first | exact pbAdd (by omega) | rfl)) ?_
   refine nm ?_
   refine qq Qt.move ?_
   refine nl ?_
   refine ⟨⟨i.k + 1, by omega, i.next En.dflt (by omega) (by simp only [soundP]; grind only)⟩, Weak.sim ⟨(by simp only [slotL, reduceIte, Nat.reduceEqDiff]; first | rfl | (rw [IntWalk.i64_in _ (by omega)]; rfl)), ⟨_, rfl, T.sim_refl _⟩, ⟨rfl, rfl⟩, ⟨rfl, rfl⟩, ⟨rfl, rfl⟩, ⟨rfl, rfl⟩, ⟨rfl, rfl⟩, ⟨rfl, rfl⟩, ⟨rfl, rfl⟩, ⟨_, rfl, T.sim_refl _⟩, ⟨_, rfl, T.sim_refl _⟩, ⟨_, rfl, T.sim_refl _⟩, ⟨_, rfl, T.sim_refl _⟩, ⟨_, rfl, T.sim_refl _⟩, ⟨_, rfl, T.sim_refl _⟩, ⟨_, rfl, T.sim_refl _⟩, rfl, rfl, rfl, trivial⟩ rfl rfl, ?_⟩
   show u.Procs.length - (i.k + 1) < u.Procs.length - i.k
   omega
  have k3 := c3
  try simp only [cnd] at c3
  refine AW.seq (AW.region ?_)
  refine qq (Qt.binOp rfl rfl rfl) ?_
  refine qq Qt.assign ?_
  refine nl ?_
  refine AW.cond rfl (fun c5 => ?_) (fun c5 => ?_)
  ·have k5 := c5
   try simp only [cnd] at c5
   refine AW.region ?_
   refine qq (Qt.loadG rfl rfl rfl ag38 sz38 (by decide)) ?_
   refine nm ?_
   refine qq (Qt.loadG rfl rfl rfl ag97 sz97 (by decide)) ?_
   refine cv Tryz.call77 rfl rfl (endlessI_con u _ _ _ _) ?_
   refine nm ?_
   refine qq Qt.assign ?_
   refine nl ?_
   refine AW.seq (AW.region ?_)
   refine qq Qt.move ?_
   refine qq (Qt.notB rfl) ?_
   refine nl ?_
   refine AW.cond rfl (fun c6 => ?_) (fun c6 => ?_)
   ·have k6 := c6
    try simp only [cnd] at c6
    have hS := i.stop En.dflt (by omega) (show soundP u (u.Procs.getD i.k En.dflt) = false by simp only [soundP]; grind only)
    refine AW.seq (AW.region ?_)
    refine qq Qt.assign ?_
    refine nl ?_
    refine AW.ret (endQ_ret (.cons (.tmp 2) .nil) ?_)
    simp only [retX, slotL, reduceIte, Nat.reduceEqDiff]
    congr 2
    simp only [soundU]
    grind only
   have k6 := c6
   try simp only [cnd] at c6
   refine jd (AW.region ?_)
   refine qq (Qt.binOp rfl rfl (by first | exact pbAdd (by omega) | rfl)) ?_
   refine nm ?_
   refine qq Qt.move ?_
   refine nl ?_
   refine ⟨⟨i.k + 1, by omega, i.next En.dflt (by omega) (by simp only [soundP]; grind only)⟩, Weak.sim ⟨(by simp only [slotL, reduceIte, Nat.reduceEqDiff]; first | rfl | (rw [IntWalk.i64_in _ (by omega)]; rfl)), ⟨_, rfl, T.sim_refl _⟩, ⟨rfl, rfl⟩, ⟨rfl, rfl⟩, ⟨rfl, rfl⟩, ⟨rfl, rfl⟩, ⟨rfl, rfl⟩, ⟨rfl, rfl⟩, ⟨rfl, rfl⟩, ⟨_, rfl, T.sim_refl _⟩, ⟨_, rfl, T.sim_refl _⟩, ⟨_, rfl, T.sim_refl _⟩, ⟨_, rfl, T.sim_refl _⟩, ⟨_, rfl, T.sim_refl _⟩, ⟨_, rfl, T.sim_refl _⟩, ⟨_, rfl, T.sim_refl _⟩, rfl, rfl, rfl, trivial⟩ rfl rfl, ?_⟩
   show u.Procs.length - (i.k + 1) < u.Procs.length - i.k
   omega
  have k5 := c5
  try simp only [cnd] at c5
  refine AW.seq (AW.region ?_)
  refine qq (Qt.binOp rfl rfl rfl) ?_
  refine qq Qt.assign ?_
  refine nl ?_
  refine AW.cond rfl (fun c7 => ?_) (fun c7 => ?_)
  ·have k7 := c7
   try simp only [cnd] at c7
   refine AW.region ?_
   refine qq (Qt.loadG rfl rfl rfl ag38 sz38 (by decide)) ?_
   refine nm ?_
   refine qq (Qt.loadG rfl rfl rfl ag97 sz97 (by decide)) ?_
   refine cv Tryz.call77 rfl rfl (endlessI_con u _ _ _ _) ?_
   refine nm ?_
   refine qq Qt.assign ?_
   refine nl ?_
   refine AW.seq (AW.region ?_)
   refine qq Qt.move ?_
   refine qq (Qt.notB rfl) ?_
   refine nl ?_
   refine AW.cond rfl (fun c8 => ?_) (fun c8 => ?_)
   ·have k8 := c8
    try simp only [cnd] at c8
    have hS := i.stop En.dflt (by omega) (show soundP u (u.Procs.getD i.k En.dflt) = false by simp only [soundP]; grind only)
    refine AW.seq (AW.region ?_)
    refine qq Qt.assign ?_
    refine nl ?_
    refine AW.ret (endQ_ret (.cons (.tmp 2) .nil) ?_)
    simp only [retX, slotL, reduceIte, Nat.reduceEqDiff]
    congr 2
    simp only [soundU]
    grind only
   have k8 := c8
   try simp only [cnd] at c8
   refine jd (AW.region ?_)
   refine qq (Qt.binOp rfl rfl (by first | exact pbAdd (by omega) | rfl)) ?_
   refine nm ?_
   refine qq Qt.move ?_
   refine nl ?_
   refine ⟨⟨i.k + 1, by omega, i.next En.dflt (by omega) (by simp only [soundP]; grind only)⟩, Weak.sim ⟨(by simp only [slotL, reduceIte, Nat.reduceEqDiff]; first | rfl | (rw [IntWalk.i64_in _ (by omega)]; rfl)), ⟨_, rfl, T.sim_refl _⟩, ⟨rfl, rfl⟩, ⟨rfl, rfl⟩, ⟨rfl, rfl⟩, ⟨rfl, rfl⟩, ⟨rfl, rfl⟩, ⟨rfl, rfl⟩, ⟨rfl, rfl⟩, ⟨_, rfl, T.sim_refl _⟩, ⟨_, rfl, T.sim_refl _⟩, ⟨_, rfl, T.sim_refl _⟩, ⟨_, rfl, T.sim_refl _⟩, ⟨_, rfl, T.sim_refl _⟩, ⟨_, rfl, T.sim_refl _⟩, ⟨_, rfl, T.sim_refl _⟩, rfl, rfl, rfl, trivial⟩ rfl rfl, ?_⟩
   show u.Procs.length - (i.k + 1) < u.Procs.length - i.k
   omega
  have k7 := c7
  try simp only [cnd] at c7
  refine jd (AW.seq (AW.region ?_))
  refine qq Qt.move ?_
  refine qq (Qt.notB rfl) ?_
  refine nl ?_
  refine AW.cond rfl (fun c9 => ?_) (fun c9 => ?_)
  ·have k9 := c9
   try simp only [cnd] at c9
   have hS := i.stop En.dflt (by omega) (show soundP u (u.Procs.getD i.k En.dflt) = false by simp only [soundP]; grind only)
   refine AW.seq (AW.region ?_)
   refine qq Qt.assign ?_
   refine nl ?_
   refine AW.ret (endQ_ret (.cons (.tmp 2) .nil) ?_)
   simp only [retX, slotL, reduceIte, Nat.reduceEqDiff]
   congr 2
   simp only [soundU]
   grind only
  have k9 := c9
  try simp only [cnd] at c9
  refine jd (AW.region ?_)
  refine qq (Qt.binOp rfl rfl (by first | exact pbAdd (by omega) | rfl)) ?_
  refine nm ?_
  refine qq Qt.move ?_
  refine nl ?_
  refine ⟨⟨i.k + 1, by omega, i.next En.dflt (by omega) (by simp only [soundP]; grind only)⟩, Weak.sim ⟨(by simp only [slotL, reduceIte, Nat.reduceEqDiff]; first | rfl | (rw [IntWalk.i64_in _ (by omega)]; rfl)), ⟨_, rfl, T.sim_refl _⟩, ⟨rfl, rfl⟩, ⟨rfl, rfl⟩, ⟨rfl, rfl⟩, ⟨rfl, rfl⟩, ⟨rfl, rfl⟩, ⟨rfl, rfl⟩, ⟨rfl, rfl⟩, ⟨_, rfl, T.sim_refl _⟩, ⟨_, rfl, T.sim_refl _⟩, ⟨_, rfl, T.sim_refl _⟩, ⟨_, rfl, T.sim_refl _⟩, ⟨_, rfl, T.sim_refl _⟩, ⟨_, rfl, T.sim_refl _⟩, ⟨_, rfl, T.sim_refl _⟩, rfl, rfl, rfl, trivial⟩ rfl rfl, ?_⟩
  show u.Procs.length - (i.k + 1) < u.Procs.length - i.k
  omega
 have k2 := c2
 try simp only [cnd] at c2
 have hF := i.full (by omega)
 refine AW.exit ?_
 dsimp only [thenQ, blockQ, reduceIte]
 refine AW.seq (AW.region ?_)
 refine qq Qt.assign ?_
 refine nl ?_
 refine AW.ret (endQ_ret (.cons (.tmp 2) .nil) ?_)
 simp only [retX, slotL, reduceIte, Nat.reduceEqDiff]
 congr 2
 simp only [soundU]
 grind only
set_option maxHeartbeats 8000000 in
set_option maxRecDepth 10000 in
theorem FnExactSound_con (a : DUnix) : Con Tryz.prog 6 [.g [.v (iv a.Next), .v (iv a.Tick), .h base [], .h (base + 1) [], .h (base + 2) [], .h (base + 3) [], .h (base + 4) [], .h (base + 5) [], .h (base + 6) []]] [.rt base .ro (tr a.Progs), .rt (base + 1) .ro (tr a.Procs), .rt (base + 2) .ro (tr a.Opens), .rt (base + 3) .ro (tr a.Pipes), .rt (base + 4) .ro (tr a.Files), .rt (base + 5) .ro (tr a.Ready), .rt (base + 6) .ro (tr a.Out)] (fun y _ => y = .v (.bool true)) := by
 refine Con.of_body Tryz.func6 rfl (by simp) ?_
 rw [Tryz.ntmps6]
 refine AW.seq (AW.region ?_)
 refine sp (Stp.boxB rfl (by decide) (by decide) rfl rfl rfl rfl) ?_
 refine nm ?_
 refine qq Qt.assign ?_
 refine nl ?_
 refine AW.seq (AW.region ?_)
 refine qq Qt.assign ?_
 refine nl ?_
 refine AW.seq (AW.region ?_)
 refine qq (Qt.loadG rfl rfl rfl ag29 sz29 (by decide)) ?_
 refine nm ?_
 refine qq Qt.move ?_
 refine cv Tryz.call10 rfl rfl (szUnix_con _ _ (by first | omega | (repeat (first | omega | apply szd_lo))) (by first | omega | (repeat (first | omega | apply szd_hi)))) ?_
 refine nm ?_
 refine qq Qt.assign ?_
 refine nl ?_
 refine AW.seq (AW.seq (AW.region ?_))
 refine qq Qt.move ?_
 refine qq (Qt.binOp rfl rfl rfl) ?_
 refine nl ?_
 refine AW.cond rfl (fun c1 => ?_) (fun c1 => ?_)
 ·have k1 := c1
  try simp only [cnd] at c1
  refine AW.seq (AW.region ?_)
  refine qq Qt.assign ?_
  refine nl ?_
  refine AW.ret (endQ_ret (.cons (.tmp 2) .nil) ?_)
  first | rfl | (exfalso; simp_all; done)
 have k1 := c1
 try simp only [cnd] at c1
 have hw : Mk.wt a ≤ 1048576 := by simp only [szd] at c1; omega
 refine jd (AW.seq (AW.region ?_))
 refine qq (Qt.loadG rfl rfl rfl ag29 sz29 (by decide)) ?_
 refine nm ?_
 refine sp (Stp.callR rfl (by decide) Tryz.call12 rfl rfl (toUnix_con _ (by first | omega | (simp only [Int.toNat_natCast]; omega) | (simp only [Mk.wt] at *; omega))) (nodup_of rfl) rfl rfl) ?_
 refine nm ?_
 refine cv Tryz.call19 rfl rfl (SoundS_con _ (unixB_of hw)) ?_
 refine nm ?_
 refine qq Qt.assign ?_
 refine nl ?_
 refine AW.seq (AW.region ?_)
 refine qq (Qt.loadG rfl rfl rfl ag29 sz29 (by decide)) ?_
 refine sp (Stp.callR rfl (by decide) Tryz.call12 rfl rfl (toUnix_con _ (by first | omega | (simp only [Int.toNat_natCast]; omega) | (simp only [Mk.wt] at *; omega))) (nodup_of rfl) rfl rfl) ?_
 refine nm ?_
 refine sp (Stp.alloc rfl (by decide) (by decide)) ?_
 refine nm ?_
 refine ss ?_
 refine nl ?_
 refine AW.seq (AW.region ?_)
 refine qq (Qt.loadG rfl rfl rfl ag38 sz38 (by decide)) ?_
 refine nm ?_
 refine cv Tryz.call20 rfl rfl (SoundI_con _ (unixB_of hw)) ?_
 refine nm ?_
 refine qq Qt.assign ?_
 refine nl ?_
 refine AW.seq (AW.seq (AW.region ?_))
 refine qq Qt.move ?_
 refine qq Qt.move ?_
 refine nm ?_
 refine qq (Qt.neB rfl rfl Tryz.underlying4) ?_
 refine nl ?_
 refine AW.cond rfl (fun c2 => (by exfalso; first | (simp at c2; done) | (simp only [decide_eq_true_eq] at c2; omega))) (fun c2 => ?_)
 refine jd (AW.seq (AW.seq ?_))
 refine AW.draw [0, 1, 4] rfl (by decide +kernel) ?_
 refine tk 0 rfl (Qt.loadG rfl rfl rfl ag38 sz38 (by decide)) ?_
 refine tk 1 rfl (Qt.loadG rfl rfl rfl ag29 sz29 (by decide)) ?_
 refine na ?_
 refine AWA.one 2 [0] [1] (by decide +kernel) rfl rfl rfl (by decide +kernel) (by decide +kernel) (by decide +kernel) (Stp.callR rfl (by decide) Tryz.call12 rfl rfl (toUnix_con _ (by first | omega | (simp only [Int.toNat_natCast]; omega) | (simp only [Mk.wt] at *; omega))) (nodup_of rfl) rfl rfl) ?_
 refine na ?_
 refine AWA.againE rfl rfl (by decide +kernel) (.on rfl rfl (Qt.loadG rfl rfl rfl ag38 sz38 (by decide))) rfl ?_
 refine na ?_
 refine AWA.one 3 [] [2, 0, 1] (by decide +kernel) rfl rfl rfl (by decide +kernel) (by decide +kernel) (by decide +kernel) (Stp.callV rfl (by decide) Tryz.call14 rfl rfl (eqUnix_con _ _)) ?_
 refine na ?_
 refine na ?_
 refine tk 4 rfl (Qt.notB rfl) ?_
 refine nz ?_
 refine AW.cond rfl (fun c3 => (by exfalso; first | (simp at c3; done) | (simp only [decide_eq_true_eq] at c3; omega))) (fun c3 => ?_)
 refine jd (AW.seq (AW.region ?_))
 refine qq Qt.assign ?_
 refine nl ?_
 refine AW.ret (endQ_ret (.cons (.tmp 2) .nil) ?_)
 first | rfl | (exfalso; simp_all; done)
end Go.Proofs.YtimmbmphfgnelaaGreat.VM
