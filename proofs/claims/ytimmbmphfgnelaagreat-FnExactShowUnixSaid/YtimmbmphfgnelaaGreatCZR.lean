/- Contracts of functions of the program. No conditions beyond those that each states. -/
import Derived.Test.YtimmbmphfgnelaaGreatCZQ
import Derived.Test.YtimmbmphfgnelaaGreatCZ9
set_option linter.all false
namespace Go.Proofs.YtimmbmphfgnelaaGreat.VM
open Go Go.RowKit Go.Proofs
set_option maxHeartbeats 8000000 in
set_option maxRecDepth 10000 in
theorem l20Show_con (u : DUnix) (hF : ShowF u) : Con Tryz.prog 78 [.g [.v (iv u.Next), .v (iv u.Tick), .h base [], .h (base + 1) [], .h (base + 2) [], .h (base + 3) [], .h (base + 4) [], .h (base + 5) [], .h (base + 6) []]] [.rt base .ro (tr u.Progs), .rt (base + 1) .ro (tr u.Procs), .rt (base + 2) .ro (tr u.Opens), .rt (base + 3) .ro (tr u.Pipes), .rt (base + 4) .ro (tr u.Files), .rt (base + 5) .ro (tr u.Ready), .rt (base + 6) .ro (tr u.Out)] (fun y _ => y = .v (.string (showOf u))) := by
 refine Con.of_body Tryz.func78 rfl (by simp) ?_
 rw [Tryz.ntmps78]
 refine AW.len (base) [] rfl (by simp [Okp]) rfl (fun hl0 => ?_)
 refine AW.len (base + 1) [] rfl (by simp [Okp]) rfl (fun hl1 => ?_)
 refine AW.len (base + 2) [] rfl (by simp [Okp]) rfl (fun hl2 => ?_)
 refine AW.len (base + 3) [] rfl (by simp [Okp]) rfl (fun hl3 => ?_)
 refine AW.len (base + 4) [] rfl (by simp [Okp]) rfl (fun hl4 => ?_)
 refine AW.len (base + 5) [] rfl (by simp [Okp]) rfl (fun hl5 => ?_)
 have hu1 := varS_size u.Next
 have hu2 := varS_size u.Tick
 have hu9 := wordsS_size u.Out
 have hu10 := hF.out
 have hu11 := hF.ready
 have hu12 := hF.opens
 have hu13 := hF.files
 have hu14 := hF.pipes
 have hu15 := hF.procs
 have hu16 := hF.progs
 have hu20 : (⟨#[117]⟩ : ByteArray).size = 1 := rfl
 have hn0 := varS_size u.Progs.length
 have ho0 := sA_size hF (k := 0) (Nat.zero_le _)
 have hp0 := sA_size hF (Nat.le_refl _)
 have hn1 := varS_size u.Procs.length
 have ho1 := sP_size hF (k := 0) (Nat.zero_le _)
 have hp1 := sP_size hF (Nat.le_refl _)
 have hn2 := varS_size u.Opens.length
 have ho2 := sO_size hF (k := 0) (Nat.zero_le _)
 have hp2 := sO_size hF (Nat.le_refl _)
 have hn3 := varS_size u.Pipes.length
 have ho3 := sI_size hF (k := 0) (Nat.zero_le _)
 have hp3 := sI_size hF (Nat.le_refl _)
 have hn4 := varS_size u.Files.length
 have ho4 := sF_size hF (k := 0) (Nat.zero_le _)
 have hp4 := sF_size hF (Nat.le_refl _)
 have hn5 := varS_size u.Ready.length
 have ho5 := sR_size hF (k := 0) (Nat.zero_le _)
 have hp5 := sR_size hF (Nat.le_refl _)
 refine AW.seq (AW.region ?_)
 refine sp (Stp.boxB rfl (by decide) (by decide) rfl rfl rfl rfl) ?_
 refine nm ?_
 refine qq Qt.assign ?_
 refine nl ?_
 refine AW.seq ?_
 refine AW.draw [0, 1, 3, 4, 5, 7, 8, 9, 10, 12, 13] rfl (by decide +kernel) ?_
 refine tk 0 rfl (fA fl38_0) ?_
 refine tk 1 rfl (Qt.load1 rfl rfl rfl ag3) ?_
 refine na ?_
 refine tk 4 rfl (fA fl38_1) ?_
 refine tk 5 rfl (Qt.load1 rfl rfl rfl ag3) ?_
 refine tk 8 rfl (fA fl38_2) ?_
 refine na ?_
 refine tk 9 rfl (Qt.load1 rfl rfl rfl ag32) ?_
 refine tk 10 rfl (Qt.lenH rfl rfl rfl sl32) ?_
 refine a1 2 [4, 5, 8, 9, 10] [1, 0] rfl rfl (Stp.callV rfl (by decide) Tryz.call205 rfl rfl (VarS_con _)) ?_
 refine na ?_
 refine AWA.againE rfl rfl (by decide +kernel) (.on rfl rfl (fA fl38_1)) rfl ?_
 refine AWA.againE rfl rfl (by decide +kernel) (.on rfl rfl (Qt.load1 rfl rfl rfl ag3)) rfl ?_
 refine AWA.againE rfl rfl (by decide +kernel) (.on rfl rfl (fA fl38_2)) rfl ?_
 refine AWA.againE rfl rfl (by decide +kernel) (.on rfl rfl (Qt.load1 rfl rfl rfl ag32)) rfl ?_
 refine AWA.againE rfl rfl (by decide +kernel) (.on rfl rfl (Qt.lenH rfl rfl rfl sl32)) rfl ?_
 refine na ?_
 refine tk 3 rfl (Qt.binOp rfl rfl (pbCat (by first | omega | (simp only [ByteArray.size_append]; omega)))) ?_
 refine a1 6 [3, 8, 9, 10] [5, 2, 4, 1, 0] rfl rfl (Stp.callV rfl (by decide) Tryz.call205 rfl rfl (VarS_con _)) ?_
 refine na ?_
 refine AWA.againE rfl rfl (by decide +kernel) (.on rfl rfl (Qt.binOp rfl rfl (pbCat (by first | omega | (simp only [ByteArray.size_append]; omega))))) rfl ?_
 refine AWA.againE rfl rfl (by decide +kernel) (.on rfl rfl (fA fl38_2)) rfl ?_
 refine AWA.againE rfl rfl (by decide +kernel) (.on rfl rfl (Qt.load1 rfl rfl rfl ag32)) rfl ?_
 refine AWA.againE rfl rfl (by decide +kernel) (.on rfl rfl (Qt.lenH rfl rfl rfl sl32)) rfl ?_
 refine na ?_
 refine tk 7 rfl (Qt.binOp rfl rfl (pbCat (by first | omega | (simp only [ByteArray.size_append]; omega)))) ?_
 refine a1 11 [3, 7] [10, 6, 9, 5, 2, 8, 4, 1, 0] rfl rfl (Stp.callV rfl (by decide) Tryz.call205 rfl rfl (VarS_con _)) ?_
 refine na ?_
 refine AWA.againE rfl rfl (by decide +kernel) (.on rfl rfl (Qt.binOp rfl rfl (pbCat (by first | omega | (simp only [ByteArray.size_append]; omega))))) rfl ?_
 refine AWA.againE rfl rfl (by decide +kernel) (.on rfl rfl (Qt.binOp rfl rfl (pbCat (by first | omega | (simp only [ByteArray.size_append]; omega))))) rfl ?_
 refine na ?_
 refine tk 12 rfl (Qt.binOp rfl rfl (pbCat (by first | omega | (simp only [ByteArray.size_append]; omega)))) ?_
 refine tk 13 rfl Qt.assign ?_
 refine nz ?_
 refine AW.seq (AW.seq (AW.region ?_))
 refine qq Qt.assign ?_
 refine nl ?_
 refine AW.block ?_
 refine AW.weak (L' := [.sl 4 (.v (iv (0 : Nat))), .sl 3 (.v (.string (sA u (0 : Nat)))), .rt 1 .box (T.s 9 1 fun k c => ([(T.v (iv u.Next), none), (T.v (iv u.Tick), none), (T.j, none), (T.j, none), (T.j, none), (T.j, none), (T.j, none), (T.j, none), (T.j, none)].getD (k * 9 + c) (T.j, none)).fst), .al 1 2 (.h base []), .al 1 3 (.h (base + 1) []), .al 1 4 (.h (base + 2) []), .al 1 5 (.h (base + 3) []), .al 1 6 (.h (base + 4) []), .al 1 7 (.h (base + 5) []), .al 1 8 (.h (base + 6) []), .rt base .ro (tr u.Progs), .rt (base + 1) .ro (tr u.Procs), .rt (base + 2) .ro (tr u.Opens), .rt (base + 3) .ro (tr u.Pipes), .rt (base + 4) .ro (tr u.Files), .rt (base + 5) .ro (tr u.Ready), .rt (base + 6) .ro (tr u.Out), .sl 1 (.p 1 [] 9 0 0)]) (Weak.sim ⟨rfl, (by simp only [slotL, reduceIte, Nat.reduceEqDiff]; congr 2 <;> (rw [sA_zero] <;> first | rfl | simp only [ByteArray.append_assoc])), Rf rfl, ⟨rfl, rfl⟩, ⟨rfl, rfl⟩, ⟨rfl, rfl⟩, ⟨rfl, rfl⟩, ⟨rfl, rfl⟩, ⟨rfl, rfl⟩, ⟨rfl, rfl⟩, Rf rfl, Rf rfl, Rf rfl, Rf rfl, Rf rfl, Rf rfl, Rf rfl, rfl, trivial⟩ rfl rfl) ?_
 refine AW.loop (fun i : KInv u.Progs.length => [.sl 4 (.v (iv i.k)), .sl 3 (.v (.string (sA u i.k))), .rt 1 .box (T.s 9 1 fun k c => ([(T.v (iv u.Next), none), (T.v (iv u.Tick), none), (T.j, none), (T.j, none), (T.j, none), (T.j, none), (T.j, none), (T.j, none), (T.j, none)].getD (k * 9 + c) (T.j, none)).fst), .al 1 2 (.h base []), .al 1 3 (.h (base + 1) []), .al 1 4 (.h (base + 2) []), .al 1 5 (.h (base + 3) []), .al 1 6 (.h (base + 4) []), .al 1 7 (.h (base + 5) []), .al 1 8 (.h (base + 6) []), .rt base .ro (tr u.Progs), .rt (base + 1) .ro (tr u.Procs), .rt (base + 2) .ro (tr u.Opens), .rt (base + 3) .ro (tr u.Pipes), .rt (base + 4) .ro (tr u.Files), .rt (base + 5) .ro (tr u.Ready), .rt (base + 6) .ro (tr u.Out), .sl 1 (.p 1 [] 9 0 0)]) (fun i => u.Progs.length - i.k) ⟨0, Nat.zero_le _⟩ ?_
 intro i
 have hle := i.le
 have hq0 := sA_size hF (k := i.k) (by omega)
 have hx0 := sA_succ u i.k
 refine AW.seq (AW.seq (AW.region ?_))
 refine qq Qt.move ?_
 refine nm ?_
 refine qq (fA fl38_2) ?_
 refine qq (Qt.load1 rfl rfl rfl ag32) ?_
 refine qq (Qt.lenH rfl rfl rfl sl32) ?_
 refine nm ?_
 refine qq (Qt.binOp rfl rfl rfl) ?_
 refine nl ?_
 refine AW.cond rfl (fun c1 => ?_) (fun c1 => ?_)
 ·have k1 := c1
  try simp only [cnd] at c1
  have hpi := hF.prog i.k (by omega)
  have hpz : (showK (u.Progs.getD i.k En.dflt) (u.Progs.getD i.k En.dflt).length).size ≤ 1127 := progB_size hpi
  have hpf := progFacts hpi
  refine jd (AW.seq (AW.block (AW.region ?_)))
  refine qq Qt.move ?_
  refine qq (fA fl38_2) ?_
  refine nm ?_
  refine qq (Qt.load1 rfl rfl rfl ag32) ?_
  refine qq Qt.move ?_
  refine qq (Qt.indexAddr rfl rfl rfl rfl sl32 sz106 (by decide) (by first | omega | grind only)) ?_
  refine nm ?_
  refine qq (Qt.load1 rfl rfl rfl ag106) ?_
  refine cv Tryz.call206 rfl rfl (l3Show_con _ hpf.1 hpf.2) ?_
  refine nm ?_
  refine qq (Qt.binOp rfl rfl (pbCat (by first | omega | (simp only [ByteArray.size_append]; omega)))) ?_
  refine qq Qt.assign ?_
  refine nl ?_
  refine AW.region ?_
  refine qq Qt.move ?_
  refine nm ?_
  refine qq (Qt.binOp rfl rfl (by first | exact pbAdd (by omega) | rfl)) ?_
  refine qq Qt.assign ?_
  refine nl ?_
  refine ⟨⟨i.k + 1, by omega⟩, Weak.sim ⟨st1, (by simp only [slotL, reduceIte, Nat.reduceEqDiff]; congr 2 <;> (rw [hx0] <;> first | rfl | simp only [progB, ByteArray.append_assoc])), Rf rfl, ⟨rfl, rfl⟩, ⟨rfl, rfl⟩, ⟨rfl, rfl⟩, ⟨rfl, rfl⟩, ⟨rfl, rfl⟩, ⟨rfl, rfl⟩, ⟨rfl, rfl⟩, Rf rfl, Rf rfl, Rf rfl, Rf rfl, Rf rfl, Rf rfl, Rf rfl, rfl, trivial⟩ rfl rfl, ?_⟩
  show u.Progs.length - (i.k + 1) < u.Progs.length - i.k
  omega
 have k1 := c1
 try simp only [cnd] at c1
 refine AW.exit ?_
 dsimp only [thenQ, blockQ, reduceIte]
 refine AW.seq (AW.region ?_)
 refine qq Qt.move ?_
 refine nm ?_
 refine qq (fA fl38_3) ?_
 refine qq (Qt.load1 rfl rfl rfl ag33) ?_
 refine qq (Qt.lenH rfl rfl rfl sl33) ?_
 refine nm ?_
 refine cv Tryz.call205 rfl rfl (VarS_con _) ?_
 refine nm ?_
 refine qq (Qt.binOp rfl rfl (pbCat (by first | omega | (simp only [ByteArray.size_append]; omega)))) ?_
 refine qq Qt.assign ?_
 refine nl ?_
 refine AW.seq (AW.seq (AW.region ?_))
 refine qq Qt.assign ?_
 refine nl ?_
 refine AW.block ?_
 refine AW.weak (L' := [.sl 5 (.v (iv (0 : Nat))), .sl 3 (.v (.string (sP u (0 : Nat)))), .rt 1 .box (T.s 9 1 fun k c => ([(T.v (iv u.Next), none), (T.v (iv u.Tick), none), (T.j, none), (T.j, none), (T.j, none), (T.j, none), (T.j, none), (T.j, none), (T.j, none)].getD (k * 9 + c) (T.j, none)).fst), .al 1 2 (.h base []), .al 1 3 (.h (base + 1) []), .al 1 4 (.h (base + 2) []), .al 1 5 (.h (base + 3) []), .al 1 6 (.h (base + 4) []), .al 1 7 (.h (base + 5) []), .al 1 8 (.h (base + 6) []), .rt base .ro (tr u.Progs), .rt (base + 1) .ro (tr u.Procs), .rt (base + 2) .ro (tr u.Opens), .rt (base + 3) .ro (tr u.Pipes), .rt (base + 4) .ro (tr u.Files), .rt (base + 5) .ro (tr u.Ready), .rt (base + 6) .ro (tr u.Out), .sl 1 (.p 1 [] 9 0 0)]) (Weak.sim ⟨rfl, (by simp only [slotL, reduceIte, Nat.reduceEqDiff]; congr 2 <;> (rw [sP_zero, show sA u i.k = sA u u.Progs.length from congrArg (sA u) (show i.k = u.Progs.length by omega)] <;> first | rfl | simp only [ByteArray.append_assoc])), Rf rfl, ⟨rfl, rfl⟩, ⟨rfl, rfl⟩, ⟨rfl, rfl⟩, ⟨rfl, rfl⟩, ⟨rfl, rfl⟩, ⟨rfl, rfl⟩, ⟨rfl, rfl⟩, Rf rfl, Rf rfl, Rf rfl, Rf rfl, Rf rfl, Rf rfl, Rf rfl, rfl, trivial⟩ rfl rfl) ?_
 refine AW.loop (fun j : KInv u.Procs.length => [.sl 5 (.v (iv j.k)), .sl 3 (.v (.string (sP u j.k))), .rt 1 .box (T.s 9 1 fun k c => ([(T.v (iv u.Next), none), (T.v (iv u.Tick), none), (T.j, none), (T.j, none), (T.j, none), (T.j, none), (T.j, none), (T.j, none), (T.j, none)].getD (k * 9 + c) (T.j, none)).fst), .al 1 2 (.h base []), .al 1 3 (.h (base + 1) []), .al 1 4 (.h (base + 2) []), .al 1 5 (.h (base + 3) []), .al 1 6 (.h (base + 4) []), .al 1 7 (.h (base + 5) []), .al 1 8 (.h (base + 6) []), .rt base .ro (tr u.Progs), .rt (base + 1) .ro (tr u.Procs), .rt (base + 2) .ro (tr u.Opens), .rt (base + 3) .ro (tr u.Pipes), .rt (base + 4) .ro (tr u.Files), .rt (base + 5) .ro (tr u.Ready), .rt (base + 6) .ro (tr u.Out), .sl 1 (.p 1 [] 9 0 0)]) (fun j => u.Procs.length - j.k) ⟨0, Nat.zero_le _⟩ ?_
 intro j
 have hlej := j.le
 have hq1 := sP_size hF (k := j.k) (by omega)
 have hx1 := sP_succ u j.k
 refine AW.seq (AW.seq (AW.region ?_))
 refine qq Qt.move ?_
 refine nm ?_
 refine qq (fA fl38_3) ?_
 refine qq (Qt.load1 rfl rfl rfl ag33) ?_
 refine qq (Qt.lenH rfl rfl rfl sl33) ?_
 refine nm ?_
 refine qq (Qt.binOp rfl rfl rfl) ?_
 refine nl ?_
 refine AW.cond rfl (fun c2 => ?_) (fun c2 => ?_)
 ·have k2 := c2
  try simp only [cnd] at c2
  have hpi := hF.proc j.k (by omega)
  have hpz := procB_size hpi
  refine jd (AW.seq (AW.block (AW.region ?_)))
  refine qq Qt.move ?_
  refine qq (fA fl38_3) ?_
  refine nm ?_
  refine qq (Qt.load1 rfl rfl rfl ag33) ?_
  refine qq Qt.move ?_
  refine qq (Qt.indexAddr rfl rfl rfl rfl sl33 sz97 (by decide) (by first | omega | grind only)) ?_
  refine nm ?_
  refine qq (Qt.loadG rfl rfl rfl ag97 sz97 (by decide)) ?_
  refine cv Tryz.call207 rfl rfl (l20Proc_con _ hpi) ?_
  refine nm ?_
  refine qq (Qt.binOp rfl rfl (pbCat (by first | omega | (simp only [ByteArray.size_append]; omega)))) ?_
  refine qq Qt.assign ?_
  refine nl ?_
  refine AW.region ?_
  refine qq Qt.move ?_
  refine nm ?_
  refine qq (Qt.binOp rfl rfl (by first | exact pbAdd (by omega) | rfl)) ?_
  refine qq Qt.assign ?_
  refine nl ?_
  refine ⟨⟨j.k + 1, by omega⟩, Weak.sim ⟨st1, (by simp only [slotL, reduceIte, Nat.reduceEqDiff]; congr 2 <;> (rw [hx1] <;> first | rfl | simp only [procB, ByteArray.append_assoc])), Rf rfl, ⟨rfl, rfl⟩, ⟨rfl, rfl⟩, ⟨rfl, rfl⟩, ⟨rfl, rfl⟩, ⟨rfl, rfl⟩, ⟨rfl, rfl⟩, ⟨rfl, rfl⟩, Rf rfl, Rf rfl, Rf rfl, Rf rfl, Rf rfl, Rf rfl, Rf rfl, rfl, trivial⟩ rfl rfl, ?_⟩
  show u.Procs.length - (j.k + 1) < u.Procs.length - j.k
  omega
 have k2 := c2
 try simp only [cnd] at c2
 refine AW.exit ?_
 dsimp only [thenQ, blockQ, reduceIte]
 refine AW.seq (AW.region ?_)
 refine qq Qt.move ?_
 refine nm ?_
 refine qq (fA fl38_4) ?_
 refine qq (Qt.load1 rfl rfl rfl ag34) ?_
 refine qq (Qt.lenH rfl rfl rfl sl34) ?_
 refine nm ?_
 refine cv Tryz.call205 rfl rfl (VarS_con _) ?_
 refine nm ?_
 refine qq (Qt.binOp rfl rfl (pbCat (by first | omega | (simp only [ByteArray.size_append]; omega)))) ?_
 refine qq Qt.assign ?_
 refine nl ?_
 refine AW.seq (AW.seq (AW.region ?_))
 refine qq Qt.assign ?_
 refine nl ?_
 refine AW.block ?_
 refine AW.weak (L' := [.sl 6 (.v (iv (0 : Nat))), .sl 3 (.v (.string (sO u (0 : Nat)))), .rt 1 .box (T.s 9 1 fun k c => ([(T.v (iv u.Next), none), (T.v (iv u.Tick), none), (T.j, none), (T.j, none), (T.j, none), (T.j, none), (T.j, none), (T.j, none), (T.j, none)].getD (k * 9 + c) (T.j, none)).fst), .al 1 2 (.h base []), .al 1 3 (.h (base + 1) []), .al 1 4 (.h (base + 2) []), .al 1 5 (.h (base + 3) []), .al 1 6 (.h (base + 4) []), .al 1 7 (.h (base + 5) []), .al 1 8 (.h (base + 6) []), .rt base .ro (tr u.Progs), .rt (base + 1) .ro (tr u.Procs), .rt (base + 2) .ro (tr u.Opens), .rt (base + 3) .ro (tr u.Pipes), .rt (base + 4) .ro (tr u.Files), .rt (base + 5) .ro (tr u.Ready), .rt (base + 6) .ro (tr u.Out), .sl 1 (.p 1 [] 9 0 0)]) (Weak.sim ⟨rfl, (by simp only [slotL, reduceIte, Nat.reduceEqDiff]; congr 2 <;> (rw [sO_zero, show sP u j.k = sP u u.Procs.length from congrArg (sP u) (show j.k = u.Procs.length by omega)] <;> first | rfl | simp only [ByteArray.append_assoc])), Rf rfl, ⟨rfl, rfl⟩, ⟨rfl, rfl⟩, ⟨rfl, rfl⟩, ⟨rfl, rfl⟩, ⟨rfl, rfl⟩, ⟨rfl, rfl⟩, ⟨rfl, rfl⟩, Rf rfl, Rf rfl, Rf rfl, Rf rfl, Rf rfl, Rf rfl, Rf rfl, rfl, trivial⟩ rfl rfl) ?_
 refine AW.loop (fun m : KInv u.Opens.length => [.sl 6 (.v (iv m.k)), .sl 3 (.v (.string (sO u m.k))), .rt 1 .box (T.s 9 1 fun k c => ([(T.v (iv u.Next), none), (T.v (iv u.Tick), none), (T.j, none), (T.j, none), (T.j, none), (T.j, none), (T.j, none), (T.j, none), (T.j, none)].getD (k * 9 + c) (T.j, none)).fst), .al 1 2 (.h base []), .al 1 3 (.h (base + 1) []), .al 1 4 (.h (base + 2) []), .al 1 5 (.h (base + 3) []), .al 1 6 (.h (base + 4) []), .al 1 7 (.h (base + 5) []), .al 1 8 (.h (base + 6) []), .rt base .ro (tr u.Progs), .rt (base + 1) .ro (tr u.Procs), .rt (base + 2) .ro (tr u.Opens), .rt (base + 3) .ro (tr u.Pipes), .rt (base + 4) .ro (tr u.Files), .rt (base + 5) .ro (tr u.Ready), .rt (base + 6) .ro (tr u.Out), .sl 1 (.p 1 [] 9 0 0)]) (fun m => u.Opens.length - m.k) ⟨0, Nat.zero_le _⟩ ?_
 intro m
 have hlem := m.le
 have hq2 := sO_size hF (k := m.k) (by omega)
 have hx2 := sO_succ u m.k
 have hy2_0 := varS_size (u.Opens.getD m.k En.dflt).Id
 have hy2_1 := varS_size (u.Opens.getD m.k En.dflt).Kind
 have hy2_2 := varS_size (u.Opens.getD m.k En.dflt).Target
 have hy2_3 := varS_size (u.Opens.getD m.k En.dflt).Off
 have hy2_4 := varS_size (u.Opens.getD m.k En.dflt).Refs
 refine AW.seq (AW.seq (AW.region ?_))
 refine qq Qt.move ?_
 refine nm ?_
 refine qq (fA fl38_4) ?_
 refine qq (Qt.load1 rfl rfl rfl ag34) ?_
 refine qq (Qt.lenH rfl rfl rfl sl34) ?_
 refine nm ?_
 refine qq (Qt.binOp rfl rfl rfl) ?_
 refine nl ?_
 refine AW.cond rfl (fun c3 => ?_) (fun c3 => ?_)
 ·have k3 := c3
  try simp only [cnd] at c3
  refine jd (AW.seq (AW.block (AW.seq (AW.region ?_))))
  refine qq (fA fl38_4) ?_
  refine qq (Qt.load1 rfl rfl rfl ag34) ?_
  refine nm ?_
  refine qq Qt.move ?_
  refine qq (Qt.indexAddr rfl rfl rfl rfl sl34 sz109 (by decide) (by first | omega | grind only)) ?_
  refine qq (Qt.loadG rfl rfl rfl ag109 sz109 (by decide)) ?_
  refine nm ?_
  refine sp (Stp.alloc rfl (by decide) (by decide)) ?_
  refine nm ?_
  refine ss ?_
  refine nl ?_
  refine AW.draw [0, 1, 2, 4, 5, 6, 8, 9, 10, 12, 13, 14, 16, 17, 18, 20] rfl (by decide +kernel) ?_
  refine tk 0 rfl Qt.move ?_
  refine na ?_
  refine tk 1 rfl (fA fl109_0) ?_
  refine tk 2 rfl (Qt.load1 rfl rfl rfl ag3) ?_
  refine tk 5 rfl (fA fl109_1) ?_
  refine na ?_
  refine tk 6 rfl (Qt.load1 rfl rfl rfl ag3) ?_
  refine tk 9 rfl (fA fl109_2) ?_
  refine tk 10 rfl (Qt.load1 rfl rfl rfl ag3) ?_
  refine na ?_
  refine tk 13 rfl (fA fl109_3) ?_
  refine tk 14 rfl (Qt.load1 rfl rfl rfl ag3) ?_
  refine tk 17 rfl (fA fl109_4) ?_
  refine na ?_
  refine tk 18 rfl (Qt.load1 rfl rfl rfl ag3) ?_
  refine a1 3 [0, 5, 6, 9, 10, 13, 14, 17, 18] [2, 1] rfl rfl (Stp.callV rfl (by decide) Tryz.call205 rfl rfl (VarS_con _)) ?_
  refine na ?_
  refine AWA.againE rfl rfl (by decide +kernel) (.on rfl rfl Qt.move) rfl ?_
  refine AWA.againE rfl rfl (by decide +kernel) (.on rfl rfl (fA fl109_1)) rfl ?_
  refine AWA.againE rfl rfl (by decide +kernel) (.on rfl rfl (Qt.load1 rfl rfl rfl ag3)) rfl ?_
  refine AWA.againE rfl rfl (by decide +kernel) (.on rfl rfl (fA fl109_2)) rfl ?_
  refine AWA.againE rfl rfl (by decide +kernel) (.on rfl rfl (Qt.load1 rfl rfl rfl ag3)) rfl ?_
  refine AWA.againE rfl rfl (by decide +kernel) (.on rfl rfl (fA fl109_3)) rfl ?_
  refine AWA.againE rfl rfl (by decide +kernel) (.on rfl rfl (Qt.load1 rfl rfl rfl ag3)) rfl ?_
  refine AWA.againE rfl rfl (by decide +kernel) (.on rfl rfl (fA fl109_4)) rfl ?_
  refine AWA.againE rfl rfl (by decide +kernel) (.on rfl rfl (Qt.load1 rfl rfl rfl ag3)) rfl ?_
  refine na ?_
  refine tk 4 rfl (Qt.binOp rfl rfl (pbCat (by first | omega | (simp only [ByteArray.size_append]; omega)))) ?_
  refine a1 7 [0, 4, 9, 10, 13, 14, 17, 18] [6, 3, 5, 2, 1] rfl rfl (Stp.callV rfl (by decide) Tryz.call205 rfl rfl (VarS_con _)) ?_
  refine na ?_
  refine AWA.againE rfl rfl (by decide +kernel) (.on rfl rfl Qt.move) rfl ?_
  refine AWA.againE rfl rfl (by decide +kernel) (.on rfl rfl (Qt.binOp rfl rfl (pbCat (by first | omega | (simp only [ByteArray.size_append]; omega))))) rfl ?_
  refine AWA.againE rfl rfl (by decide +kernel) (.on rfl rfl (fA fl109_2)) rfl ?_
  refine AWA.againE rfl rfl (by decide +kernel) (.on rfl rfl (Qt.load1 rfl rfl rfl ag3)) rfl ?_
  refine AWA.againE rfl rfl (by decide +kernel) (.on rfl rfl (fA fl109_3)) rfl ?_
  refine AWA.againE rfl rfl (by decide +kernel) (.on rfl rfl (Qt.load1 rfl rfl rfl ag3)) rfl ?_
  refine AWA.againE rfl rfl (by decide +kernel) (.on rfl rfl (fA fl109_4)) rfl ?_
  refine AWA.againE rfl rfl (by decide +kernel) (.on rfl rfl (Qt.load1 rfl rfl rfl ag3)) rfl ?_
  refine na ?_
  refine tk 8 rfl (Qt.binOp rfl rfl (pbCat (by first | omega | (simp only [ByteArray.size_append]; omega)))) ?_
  refine a1 11 [0, 4, 8, 13, 14, 17, 18] [10, 7, 9, 6, 3, 5, 2, 1] rfl rfl (Stp.callV rfl (by decide) Tryz.call205 rfl rfl (VarS_con _)) ?_
  refine na ?_
  refine AWA.againE rfl rfl (by decide +kernel) (.on rfl rfl Qt.move) rfl ?_
  refine AWA.againE rfl rfl (by decide +kernel) (.on rfl rfl (Qt.binOp rfl rfl (pbCat (by first | omega | (simp only [ByteArray.size_append]; omega))))) rfl ?_
  refine AWA.againE rfl rfl (by decide +kernel) (.on rfl rfl (Qt.binOp rfl rfl (pbCat (by first | omega | (simp only [ByteArray.size_append]; omega))))) rfl ?_
  refine AWA.againE rfl rfl (by decide +kernel) (.on rfl rfl (fA fl109_3)) rfl ?_
  refine AWA.againE rfl rfl (by decide +kernel) (.on rfl rfl (Qt.load1 rfl rfl rfl ag3)) rfl ?_
  refine AWA.againE rfl rfl (by decide +kernel) (.on rfl rfl (fA fl109_4)) rfl ?_
  refine AWA.againE rfl rfl (by decide +kernel) (.on rfl rfl (Qt.load1 rfl rfl rfl ag3)) rfl ?_
  refine na ?_
  refine tk 12 rfl (Qt.binOp rfl rfl (pbCat (by first | omega | (simp only [ByteArray.size_append]; omega)))) ?_
  refine a1 15 [0, 4, 8, 12, 17, 18] [14, 11, 13, 10, 7, 9, 6, 3, 5, 2, 1] rfl rfl (Stp.callV rfl (by decide) Tryz.call205 rfl rfl (VarS_con _)) ?_
  refine na ?_
  refine AWA.againE rfl rfl (by decide +kernel) (.on rfl rfl Qt.move) rfl ?_
  refine AWA.againE rfl rfl (by decide +kernel) (.on rfl rfl (Qt.binOp rfl rfl (pbCat (by first | omega | (simp only [ByteArray.size_append]; omega))))) rfl ?_
  refine AWA.againE rfl rfl (by decide +kernel) (.on rfl rfl (Qt.binOp rfl rfl (pbCat (by first | omega | (simp only [ByteArray.size_append]; omega))))) rfl ?_
  refine AWA.againE rfl rfl (by decide +kernel) (.on rfl rfl (Qt.binOp rfl rfl (pbCat (by first | omega | (simp only [ByteArray.size_append]; omega))))) rfl ?_
  refine AWA.againE rfl rfl (by decide +kernel) (.on rfl rfl (fA fl109_4)) rfl ?_
  refine AWA.againE rfl rfl (by decide +kernel) (.on rfl rfl (Qt.load1 rfl rfl rfl ag3)) rfl ?_
  refine na ?_
  refine tk 16 rfl (Qt.binOp rfl rfl (pbCat (by first | omega | (simp only [ByteArray.size_append]; omega)))) ?_
  refine a1 19 [0, 4, 8, 12, 16] [18, 15, 17, 14, 11, 13, 10, 7, 9, 6, 3, 5, 2, 1] rfl rfl (Stp.callV rfl (by decide) Tryz.call205 rfl rfl (VarS_con _)) ?_
  refine na ?_
  refine AWA.againE rfl rfl (by decide +kernel) (.on rfl rfl Qt.move) rfl ?_
  refine AWA.againE rfl rfl (by decide +kernel) (.on rfl rfl (Qt.binOp rfl rfl (pbCat (by first | omega | (simp only [ByteArray.size_append]; omega))))) rfl ?_
  refine AWA.againE rfl rfl (by decide +kernel) (.on rfl rfl (Qt.binOp rfl rfl (pbCat (by first | omega | (simp only [ByteArray.size_append]; omega))))) rfl ?_
  refine AWA.againE rfl rfl (by decide +kernel) (.on rfl rfl (Qt.binOp rfl rfl (pbCat (by first | omega | (simp only [ByteArray.size_append]; omega))))) rfl ?_
  refine AWA.againE rfl rfl (by decide +kernel) (.on rfl rfl (Qt.binOp rfl rfl (pbCat (by first | omega | (simp only [ByteArray.size_append]; omega))))) rfl ?_
  refine na ?_
  refine tk 20 rfl (Qt.binOp rfl rfl (pbCat (by first | omega | (simp only [ByteArray.size_append]; omega)))) ?_
  refine a1 21 [] [20, 19, 18, 17, 16, 15, 14, 13, 12, 11, 10, 9, 8, 7, 6, 5, 4, 3, 2, 1, 0] rfl rfl (Stp.q rfl (by decide) Qt.assign) ?_
  refine na ?_
  refine na ?_
  refine nz ?_
  refine AW.region ?_
  refine qq Qt.move ?_
  refine qq (Qt.binOp rfl rfl (by first | exact pbAdd (by omega) | rfl)) ?_
  refine qq Qt.assign ?_
  refine nl ?_
  refine ⟨⟨m.k + 1, by omega⟩, Weak.sim ⟨st1, (by simp only [slotL, reduceIte, Nat.reduceEqDiff]; congr 2 <;> (rw [hx2] <;> first | rfl | simp only [openB, ByteArray.append_assoc])), Rf rfl, ⟨rfl, rfl⟩, ⟨rfl, rfl⟩, ⟨rfl, rfl⟩, ⟨rfl, rfl⟩, ⟨rfl, rfl⟩, ⟨rfl, rfl⟩, ⟨rfl, rfl⟩, Rf rfl, Rf rfl, Rf rfl, Rf rfl, Rf rfl, Rf rfl, Rf rfl, rfl, trivial⟩ rfl rfl, ?_⟩
  show u.Opens.length - (m.k + 1) < u.Opens.length - m.k
  omega
 have k3 := c3
 try simp only [cnd] at c3
 refine AW.exit ?_
 dsimp only [thenQ, blockQ, reduceIte]
 refine AW.seq (AW.region ?_)
 refine qq Qt.move ?_
 refine nm ?_
 refine qq (fA fl38_5) ?_
 refine qq (Qt.load1 rfl rfl rfl ag35) ?_
 refine qq (Qt.lenH rfl rfl rfl sl35) ?_
 refine nm ?_
 refine cv Tryz.call205 rfl rfl (VarS_con _) ?_
 refine nm ?_
 refine qq (Qt.binOp rfl rfl (pbCat (by first | omega | (simp only [ByteArray.size_append]; omega)))) ?_
 refine qq Qt.assign ?_
 refine nl ?_
 refine AW.seq (AW.seq (AW.region ?_))
 refine qq Qt.assign ?_
 refine nl ?_
 refine AW.block ?_
 refine AW.weak (L' := [.sl 8 (.v (iv (0 : Nat))), .sl 3 (.v (.string (sI u (0 : Nat)))), .rt 1 .box (T.s 9 1 fun k c => ([(T.v (iv u.Next), none), (T.v (iv u.Tick), none), (T.j, none), (T.j, none), (T.j, none), (T.j, none), (T.j, none), (T.j, none), (T.j, none)].getD (k * 9 + c) (T.j, none)).fst), .al 1 2 (.h base []), .al 1 3 (.h (base + 1) []), .al 1 4 (.h (base + 2) []), .al 1 5 (.h (base + 3) []), .al 1 6 (.h (base + 4) []), .al 1 7 (.h (base + 5) []), .al 1 8 (.h (base + 6) []), .rt base .ro (tr u.Progs), .rt (base + 1) .ro (tr u.Procs), .rt (base + 2) .ro (tr u.Opens), .rt (base + 3) .ro (tr u.Pipes), .rt (base + 4) .ro (tr u.Files), .rt (base + 5) .ro (tr u.Ready), .rt (base + 6) .ro (tr u.Out), .sl 1 (.p 1 [] 9 0 0)]) (Weak.sim ⟨rfl, (by simp only [slotL, reduceIte, Nat.reduceEqDiff]; congr 2 <;> (rw [sI_zero, show sO u m.k = sO u u.Opens.length from congrArg (sO u) (show m.k = u.Opens.length by omega)] <;> first | rfl | simp only [ByteArray.append_assoc])), Rf rfl, ⟨rfl, rfl⟩, ⟨rfl, rfl⟩, ⟨rfl, rfl⟩, ⟨rfl, rfl⟩, ⟨rfl, rfl⟩, ⟨rfl, rfl⟩, ⟨rfl, rfl⟩, Rf rfl, Rf rfl, Rf rfl, Rf rfl, Rf rfl, Rf rfl, Rf rfl, rfl, trivial⟩ rfl rfl) ?_
 refine AW.loop (fun n : KInv u.Pipes.length => [.sl 8 (.v (iv n.k)), .sl 3 (.v (.string (sI u n.k))), .rt 1 .box (T.s 9 1 fun k c => ([(T.v (iv u.Next), none), (T.v (iv u.Tick), none), (T.j, none), (T.j, none), (T.j, none), (T.j, none), (T.j, none), (T.j, none), (T.j, none)].getD (k * 9 + c) (T.j, none)).fst), .al 1 2 (.h base []), .al 1 3 (.h (base + 1) []), .al 1 4 (.h (base + 2) []), .al 1 5 (.h (base + 3) []), .al 1 6 (.h (base + 4) []), .al 1 7 (.h (base + 5) []), .al 1 8 (.h (base + 6) []), .rt base .ro (tr u.Progs), .rt (base + 1) .ro (tr u.Procs), .rt (base + 2) .ro (tr u.Opens), .rt (base + 3) .ro (tr u.Pipes), .rt (base + 4) .ro (tr u.Files), .rt (base + 5) .ro (tr u.Ready), .rt (base + 6) .ro (tr u.Out), .sl 1 (.p 1 [] 9 0 0)]) (fun n => u.Pipes.length - n.k) ⟨0, Nat.zero_le _⟩ ?_
 intro n
 have hlen := n.le
 have hq3 := sI_size hF (k := n.k) (by omega)
 have hx3 := sI_succ u n.k
 have hy3_0 := varS_size (u.Pipes.getD n.k En.dflt).Id
 have hz3 := wordsS_size (u.Pipes.getD n.k En.dflt).Data
 refine AW.seq (AW.seq (AW.region ?_))
 refine qq Qt.move ?_
 refine nm ?_
 refine qq (fA fl38_5) ?_
 refine qq (Qt.load1 rfl rfl rfl ag35) ?_
 refine qq (Qt.lenH rfl rfl rfl sl35) ?_
 refine nm ?_
 refine qq (Qt.binOp rfl rfl rfl) ?_
 refine nl ?_
 refine AW.cond rfl (fun c4 => ?_) (fun c4 => ?_)
 ·have k4 := c4
  try simp only [cnd] at c4
  have hpi := hF.pipe n.k (by omega)
  refine jd (AW.seq (AW.block ?_))
  refine AW.draw [0, 1, 2, 3, 4, 5, 6, 8, 9, 10, 11, 12, 13, 14, 16] rfl (by decide +kernel) ?_
  refine tk 0 rfl Qt.move ?_
  refine tk 1 rfl (fA fl38_5) ?_
  refine na ?_
  refine tk 2 rfl (Qt.load1 rfl rfl rfl ag35) ?_
  refine tk 3 rfl Qt.move ?_
  refine tk 4 rfl (Qt.indexAddr rfl rfl rfl rfl sl35 sz128 (by decide) (by first | omega | grind only)) ?_
  refine na ?_
  refine tk 5 rfl (fA fl128_0) ?_
  refine tk 6 rfl (Qt.load1 rfl rfl rfl ag3) ?_
  refine tk 9 rfl (fA fl38_5) ?_
  refine na ?_
  refine tk 10 rfl (Qt.load1 rfl rfl rfl ag35) ?_
  refine tk 11 rfl Qt.move ?_
  refine tk 12 rfl (Qt.indexAddr rfl rfl rfl rfl sl35 sz128 (by decide) (by first | omega | grind only)) ?_
  refine na ?_
  refine tk 13 rfl (fA fl128_1) ?_
  refine tk 14 rfl (Qt.load1 rfl rfl rfl ag27) ?_
  refine a1 7 [0, 9, 10, 11, 12, 13, 14] [6, 5, 4, 3, 2, 1] rfl rfl (Stp.callV rfl (by decide) Tryz.call205 rfl rfl (VarS_con _)) ?_
  refine na ?_
  refine AWA.againE rfl rfl (by decide +kernel) (.on rfl rfl Qt.move) rfl ?_
  refine AWA.againE rfl rfl (by decide +kernel) (.on rfl rfl (fA fl38_5)) rfl ?_
  refine AWA.againE rfl rfl (by decide +kernel) (.on rfl rfl (Qt.load1 rfl rfl rfl ag35)) rfl ?_
  refine AWA.againE rfl rfl (by decide +kernel) (.on rfl rfl Qt.move) rfl ?_
  refine AWA.againE rfl rfl (by decide +kernel) (.on rfl rfl (Qt.indexAddr rfl rfl rfl rfl sl35 sz128 (by decide) (by first | omega | grind only))) rfl ?_
  refine AWA.againE rfl rfl (by decide +kernel) (.on rfl rfl (fA fl128_1)) rfl ?_
  refine AWA.againE rfl rfl (by decide +kernel) (.on rfl rfl (Qt.load1 rfl rfl rfl ag27)) rfl ?_
  refine na ?_
  refine tk 8 rfl (Qt.binOp rfl rfl (pbCat (by first | omega | (simp only [ByteArray.size_append]; omega)))) ?_
  refine a1 15 [0, 8] [14, 7, 13, 6, 12, 5, 11, 10, 4, 9, 3, 2, 1] rfl rfl (Stp.callV rfl (by decide) Tryz.call208 rfl rfl (l20Words_con _ (by first | exact hF.outW | exact hpi.2) (by first | omega | (have := hpi.1; omega)))) ?_
  refine na ?_
  refine AWA.againE rfl rfl (by decide +kernel) (.on rfl rfl Qt.move) rfl ?_
  refine AWA.againE rfl rfl (by decide +kernel) (.on rfl rfl (Qt.binOp rfl rfl (pbCat (by first | omega | (simp only [ByteArray.size_append]; omega))))) rfl ?_
  refine na ?_
  refine tk 16 rfl (Qt.binOp rfl rfl (pbCat (by first | omega | (simp only [ByteArray.size_append]; omega)))) ?_
  refine a1 17 [] [16, 15, 14, 13, 12, 11, 10, 9, 8, 7, 6, 5, 4, 3, 2, 1, 0] rfl rfl (Stp.q rfl (by decide) Qt.assign) ?_
  refine na ?_
  refine na ?_
  refine nz ?_
  refine AW.region ?_
  refine qq Qt.move ?_
  refine qq (Qt.binOp rfl rfl (by first | exact pbAdd (by omega) | rfl)) ?_
  refine qq Qt.assign ?_
  refine nl ?_
  refine ⟨⟨n.k + 1, by omega⟩, Weak.sim ⟨st1, (by simp only [slotL, reduceIte, Nat.reduceEqDiff]; congr 2 <;> (rw [hx3] <;> first | rfl | simp only [pipeB, ByteArray.append_assoc])), Rf rfl, ⟨rfl, rfl⟩, ⟨rfl, rfl⟩, ⟨rfl, rfl⟩, ⟨rfl, rfl⟩, ⟨rfl, rfl⟩, ⟨rfl, rfl⟩, ⟨rfl, rfl⟩, Rf rfl, Rf rfl, Rf rfl, Rf rfl, Rf rfl, Rf rfl, Rf rfl, rfl, trivial⟩ rfl rfl, ?_⟩
  show u.Pipes.length - (n.k + 1) < u.Pipes.length - n.k
  omega
 have k4 := c4
 try simp only [cnd] at c4
 refine AW.exit ?_
 dsimp only [thenQ, blockQ, reduceIte]
 refine AW.seq (AW.region ?_)
 refine qq Qt.move ?_
 refine nm ?_
 refine qq (fA fl38_6) ?_
 refine qq (Qt.load1 rfl rfl rfl ag36) ?_
 refine qq (Qt.lenH rfl rfl rfl sl36) ?_
 refine nm ?_
 refine cv Tryz.call205 rfl rfl (VarS_con _) ?_
 refine nm ?_
 refine qq (Qt.binOp rfl rfl (pbCat (by first | omega | (simp only [ByteArray.size_append]; omega)))) ?_
 refine qq Qt.assign ?_
 refine nl ?_
 refine AW.seq (AW.seq (AW.region ?_))
 refine qq Qt.assign ?_
 refine nl ?_
 refine AW.block ?_
 refine AW.weak (L' := [.sl 9 (.v (iv (0 : Nat))), .sl 3 (.v (.string (sF u (0 : Nat)))), .rt 1 .box (T.s 9 1 fun k c => ([(T.v (iv u.Next), none), (T.v (iv u.Tick), none), (T.j, none), (T.j, none), (T.j, none), (T.j, none), (T.j, none), (T.j, none), (T.j, none)].getD (k * 9 + c) (T.j, none)).fst), .al 1 2 (.h base []), .al 1 3 (.h (base + 1) []), .al 1 4 (.h (base + 2) []), .al 1 5 (.h (base + 3) []), .al 1 6 (.h (base + 4) []), .al 1 7 (.h (base + 5) []), .al 1 8 (.h (base + 6) []), .rt base .ro (tr u.Progs), .rt (base + 1) .ro (tr u.Procs), .rt (base + 2) .ro (tr u.Opens), .rt (base + 3) .ro (tr u.Pipes), .rt (base + 4) .ro (tr u.Files), .rt (base + 5) .ro (tr u.Ready), .rt (base + 6) .ro (tr u.Out), .sl 1 (.p 1 [] 9 0 0)]) (Weak.sim ⟨rfl, (by simp only [slotL, reduceIte, Nat.reduceEqDiff]; congr 2 <;> (rw [sF_zero, show sI u n.k = sI u u.Pipes.length from congrArg (sI u) (show n.k = u.Pipes.length by omega)] <;> first | rfl | simp only [ByteArray.append_assoc])), Rf rfl, ⟨rfl, rfl⟩, ⟨rfl, rfl⟩, ⟨rfl, rfl⟩, ⟨rfl, rfl⟩, ⟨rfl, rfl⟩, ⟨rfl, rfl⟩, ⟨rfl, rfl⟩, Rf rfl, Rf rfl, Rf rfl, Rf rfl, Rf rfl, Rf rfl, Rf rfl, rfl, trivial⟩ rfl rfl) ?_
 refine AW.loop (fun o : KInv u.Files.length => [.sl 9 (.v (iv o.k)), .sl 3 (.v (.string (sF u o.k))), .rt 1 .box (T.s 9 1 fun k c => ([(T.v (iv u.Next), none), (T.v (iv u.Tick), none), (T.j, none), (T.j, none), (T.j, none), (T.j, none), (T.j, none), (T.j, none), (T.j, none)].getD (k * 9 + c) (T.j, none)).fst), .al 1 2 (.h base []), .al 1 3 (.h (base + 1) []), .al 1 4 (.h (base + 2) []), .al 1 5 (.h (base + 3) []), .al 1 6 (.h (base + 4) []), .al 1 7 (.h (base + 5) []), .al 1 8 (.h (base + 6) []), .rt base .ro (tr u.Progs), .rt (base + 1) .ro (tr u.Procs), .rt (base + 2) .ro (tr u.Opens), .rt (base + 3) .ro (tr u.Pipes), .rt (base + 4) .ro (tr u.Files), .rt (base + 5) .ro (tr u.Ready), .rt (base + 6) .ro (tr u.Out), .sl 1 (.p 1 [] 9 0 0)]) (fun o => u.Files.length - o.k) ⟨0, Nat.zero_le _⟩ ?_
 intro o
 have hleo := o.le
 have hq4 := sF_size hF (k := o.k) (by omega)
 have hx4 := sF_succ u o.k
 have hy4_0 := varS_size (u.Files.getD o.k En.dflt).Name
 have hz4 := wordsS_size (u.Files.getD o.k En.dflt).Data
 refine AW.seq (AW.seq (AW.region ?_))
 refine qq Qt.move ?_
 refine nm ?_
 refine qq (fA fl38_6) ?_
 refine qq (Qt.load1 rfl rfl rfl ag36) ?_
 refine qq (Qt.lenH rfl rfl rfl sl36) ?_
 refine nm ?_
 refine qq (Qt.binOp rfl rfl rfl) ?_
 refine nl ?_
 refine AW.cond rfl (fun c5 => ?_) (fun c5 => ?_)
 ·have k5 := c5
  try simp only [cnd] at c5
  have hpi := hF.file o.k (by omega)
  refine jd (AW.seq (AW.block ?_))
  refine AW.draw [0, 1, 2, 3, 4, 5, 6, 8, 9, 10, 11, 12, 13, 14, 16] rfl (by decide +kernel) ?_
  refine tk 0 rfl Qt.move ?_
  refine tk 1 rfl (fA fl38_6) ?_
  refine na ?_
  refine tk 2 rfl (Qt.load1 rfl rfl rfl ag36) ?_
  refine tk 3 rfl Qt.move ?_
  refine tk 4 rfl (Qt.indexAddr rfl rfl rfl rfl sl36 sz130 (by decide) (by first | omega | grind only)) ?_
  refine na ?_
  refine tk 5 rfl (fA fl130_0) ?_
  refine tk 6 rfl (Qt.load1 rfl rfl rfl ag3) ?_
  refine tk 9 rfl (fA fl38_6) ?_
  refine na ?_
  refine tk 10 rfl (Qt.load1 rfl rfl rfl ag36) ?_
  refine tk 11 rfl Qt.move ?_
  refine tk 12 rfl (Qt.indexAddr rfl rfl rfl rfl sl36 sz130 (by decide) (by first | omega | grind only)) ?_
  refine na ?_
  refine tk 13 rfl (fA fl130_1) ?_
  refine tk 14 rfl (Qt.load1 rfl rfl rfl ag27) ?_
  refine a1 7 [0, 9, 10, 11, 12, 13, 14] [6, 5, 4, 3, 2, 1] rfl rfl (Stp.callV rfl (by decide) Tryz.call205 rfl rfl (VarS_con _)) ?_
  refine na ?_
  refine AWA.againE rfl rfl (by decide +kernel) (.on rfl rfl Qt.move) rfl ?_
  refine AWA.againE rfl rfl (by decide +kernel) (.on rfl rfl (fA fl38_6)) rfl ?_
  refine AWA.againE rfl rfl (by decide +kernel) (.on rfl rfl (Qt.load1 rfl rfl rfl ag36)) rfl ?_
  refine AWA.againE rfl rfl (by decide +kernel) (.on rfl rfl Qt.move) rfl ?_
  refine AWA.againE rfl rfl (by decide +kernel) (.on rfl rfl (Qt.indexAddr rfl rfl rfl rfl sl36 sz130 (by decide) (by first | omega | grind only))) rfl ?_
  refine AWA.againE rfl rfl (by decide +kernel) (.on rfl rfl (fA fl130_1)) rfl ?_
  refine AWA.againE rfl rfl (by decide +kernel) (.on rfl rfl (Qt.load1 rfl rfl rfl ag27)) rfl ?_
  refine na ?_
  refine tk 8 rfl (Qt.binOp rfl rfl (pbCat (by first | omega | (simp only [ByteArray.size_append]; omega)))) ?_
  refine a1 15 [0, 8] [14, 7, 13, 6, 12, 5, 11, 10, 4, 9, 3, 2, 1] rfl rfl (Stp.callV rfl (by decide) Tryz.call208 rfl rfl (l20Words_con _ (by first | exact hF.outW | exact hpi.2) (by first | omega | (have := hpi.1; omega)))) ?_
  refine na ?_
  refine AWA.againE rfl rfl (by decide +kernel) (.on rfl rfl Qt.move) rfl ?_
  refine AWA.againE rfl rfl (by decide +kernel) (.on rfl rfl (Qt.binOp rfl rfl (pbCat (by first | omega | (simp only [ByteArray.size_append]; omega))))) rfl ?_
  refine na ?_
  refine tk 16 rfl (Qt.binOp rfl rfl (pbCat (by first | omega | (simp only [ByteArray.size_append]; omega)))) ?_
  refine a1 17 [] [16, 15, 14, 13, 12, 11, 10, 9, 8, 7, 6, 5, 4, 3, 2, 1, 0] rfl rfl (Stp.q rfl (by decide) Qt.assign) ?_
  refine na ?_
  refine na ?_
  refine nz ?_
  refine AW.region ?_
  refine qq Qt.move ?_
  refine qq (Qt.binOp rfl rfl (by first | exact pbAdd (by omega) | rfl)) ?_
  refine qq Qt.assign ?_
  refine nl ?_
  refine ⟨⟨o.k + 1, by omega⟩, Weak.sim ⟨st1, (by simp only [slotL, reduceIte, Nat.reduceEqDiff]; congr 2 <;> (rw [hx4] <;> first | rfl | simp only [fileB, ByteArray.append_assoc])), Rf rfl, ⟨rfl, rfl⟩, ⟨rfl, rfl⟩, ⟨rfl, rfl⟩, ⟨rfl, rfl⟩, ⟨rfl, rfl⟩, ⟨rfl, rfl⟩, ⟨rfl, rfl⟩, Rf rfl, Rf rfl, Rf rfl, Rf rfl, Rf rfl, Rf rfl, Rf rfl, rfl, trivial⟩ rfl rfl, ?_⟩
  show u.Files.length - (o.k + 1) < u.Files.length - o.k
  omega
 have k5 := c5
 try simp only [cnd] at c5
 refine AW.exit ?_
 dsimp only [thenQ, blockQ, reduceIte]
 refine AW.seq (AW.region ?_)
 refine qq Qt.move ?_
 refine nm ?_
 refine qq (fA fl38_7) ?_
 refine qq (Qt.load1 rfl rfl rfl ag27) ?_
 refine qq (Qt.lenH rfl rfl rfl sl27) ?_
 refine nm ?_
 refine cv Tryz.call205 rfl rfl (VarS_con _) ?_
 refine nm ?_
 refine qq (Qt.binOp rfl rfl (pbCat (by first | omega | (simp only [ByteArray.size_append]; omega)))) ?_
 refine qq Qt.assign ?_
 refine nl ?_
 refine AW.seq (AW.seq (AW.region ?_))
 refine qq Qt.assign ?_
 refine nl ?_
 refine AW.block ?_
 refine AW.weak (L' := [.sl 10 (.v (iv (0 : Nat))), .sl 3 (.v (.string (sR u (0 : Nat)))), .rt 1 .box (T.s 9 1 fun k c => ([(T.v (iv u.Next), none), (T.v (iv u.Tick), none), (T.j, none), (T.j, none), (T.j, none), (T.j, none), (T.j, none), (T.j, none), (T.j, none)].getD (k * 9 + c) (T.j, none)).fst), .al 1 2 (.h base []), .al 1 3 (.h (base + 1) []), .al 1 4 (.h (base + 2) []), .al 1 5 (.h (base + 3) []), .al 1 6 (.h (base + 4) []), .al 1 7 (.h (base + 5) []), .al 1 8 (.h (base + 6) []), .rt base .ro (tr u.Progs), .rt (base + 1) .ro (tr u.Procs), .rt (base + 2) .ro (tr u.Opens), .rt (base + 3) .ro (tr u.Pipes), .rt (base + 4) .ro (tr u.Files), .rt (base + 5) .ro (tr u.Ready), .rt (base + 6) .ro (tr u.Out), .sl 1 (.p 1 [] 9 0 0)]) (Weak.sim ⟨rfl, (by simp only [slotL, reduceIte, Nat.reduceEqDiff]; congr 2 <;> (rw [sR_zero, show sF u o.k = sF u u.Files.length from congrArg (sF u) (show o.k = u.Files.length by omega)] <;> first | rfl | simp only [ByteArray.append_assoc])), Rf rfl, ⟨rfl, rfl⟩, ⟨rfl, rfl⟩, ⟨rfl, rfl⟩, ⟨rfl, rfl⟩, ⟨rfl, rfl⟩, ⟨rfl, rfl⟩, ⟨rfl, rfl⟩, Rf rfl, Rf rfl, Rf rfl, Rf rfl, Rf rfl, Rf rfl, Rf rfl, rfl, trivial⟩ rfl rfl) ?_
 refine AW.loop (fun q : KInv u.Ready.length => [.sl 10 (.v (iv q.k)), .sl 3 (.v (.string (sR u q.k))), .rt 1 .box (T.s 9 1 fun k c => ([(T.v (iv u.Next), none), (T.v (iv u.Tick), none), (T.j, none), (T.j, none), (T.j, none), (T.j, none), (T.j, none), (T.j, none), (T.j, none)].getD (k * 9 + c) (T.j, none)).fst), .al 1 2 (.h base []), .al 1 3 (.h (base + 1) []), .al 1 4 (.h (base + 2) []), .al 1 5 (.h (base + 3) []), .al 1 6 (.h (base + 4) []), .al 1 7 (.h (base + 5) []), .al 1 8 (.h (base + 6) []), .rt base .ro (tr u.Progs), .rt (base + 1) .ro (tr u.Procs), .rt (base + 2) .ro (tr u.Opens), .rt (base + 3) .ro (tr u.Pipes), .rt (base + 4) .ro (tr u.Files), .rt (base + 5) .ro (tr u.Ready), .rt (base + 6) .ro (tr u.Out), .sl 1 (.p 1 [] 9 0 0)]) (fun q => u.Ready.length - q.k) ⟨0, Nat.zero_le _⟩ ?_
 intro q
 have hleq := q.le
 have hq5 := sR_size hF (k := q.k) (by omega)
 have hx5 := sR_succ u q.k
 have hy5 := varS_size (u.Ready.getD q.k En.dflt)
 refine AW.seq (AW.seq (AW.region ?_))
 refine qq Qt.move ?_
 refine nm ?_
 refine qq (fA fl38_7) ?_
 refine qq (Qt.load1 rfl rfl rfl ag27) ?_
 refine qq (Qt.lenH rfl rfl rfl sl27) ?_
 refine nm ?_
 refine qq (Qt.binOp rfl rfl rfl) ?_
 refine nl ?_
 refine AW.cond rfl (fun c6 => ?_) (fun c6 => ?_)
 ·have k6 := c6
  try simp only [cnd] at c6
  refine jd (AW.seq (AW.block (AW.region ?_)))
  refine qq Qt.move ?_
  refine qq (fA fl38_7) ?_
  refine nm ?_
  refine qq (Qt.load1 rfl rfl rfl ag27) ?_
  refine qq Qt.move ?_
  refine qq (Qt.indexAddr rfl rfl rfl rfl sl27 sz3 (by decide) (by first | omega | grind only)) ?_
  refine nm ?_
  refine qq (Qt.load1 rfl rfl rfl ag3) ?_
  refine cv Tryz.call205 rfl rfl (VarS_con _) ?_
  refine nm ?_
  refine qq (Qt.binOp rfl rfl (pbCat (by first | omega | (simp only [ByteArray.size_append]; omega)))) ?_
  refine qq Qt.assign ?_
  refine nl ?_
  refine AW.region ?_
  refine qq Qt.move ?_
  refine nm ?_
  refine qq (Qt.binOp rfl rfl (by first | exact pbAdd (by omega) | rfl)) ?_
  refine qq Qt.assign ?_
  refine nl ?_
  refine ⟨⟨q.k + 1, by omega⟩, Weak.sim ⟨st1, (by simp only [slotL, reduceIte, Nat.reduceEqDiff]; congr 2 <;> (rw [hx5] <;> first | rfl | simp only [varS, ByteArray.append_assoc])), Rf rfl, ⟨rfl, rfl⟩, ⟨rfl, rfl⟩, ⟨rfl, rfl⟩, ⟨rfl, rfl⟩, ⟨rfl, rfl⟩, ⟨rfl, rfl⟩, ⟨rfl, rfl⟩, Rf rfl, Rf rfl, Rf rfl, Rf rfl, Rf rfl, Rf rfl, Rf rfl, rfl, trivial⟩ rfl rfl, ?_⟩
  show u.Ready.length - (q.k + 1) < u.Ready.length - q.k
  omega
 have k6 := c6
 try simp only [cnd] at c6
 refine AW.exit ?_
 dsimp only [thenQ, blockQ, reduceIte]
 refine AW.seq (AW.region ?_)
 refine qq Qt.move ?_
 refine nm ?_
 refine qq (fA fl38_8) ?_
 refine qq (Qt.load1 rfl rfl rfl ag27) ?_
 refine cv Tryz.call208 rfl rfl (l20Words_con _ (by first | exact hF.outW | exact hpi.2) (by first | omega | (have := hpi.1; omega))) ?_
 refine nm ?_
 refine qq (Qt.binOp rfl rfl (pbCat (by first | omega | (simp only [ByteArray.size_append]; omega)))) ?_
 refine qq Qt.assign ?_
 refine nl ?_
 refine AW.ret (endQ_ret (.cons (.tmp 2) .nil) ?_)
 rw [show showOf u = sR u q.k ++ wordsS u.Out from by rw [showOf, show q.k = u.Ready.length by omega]]
 rfl
set_option maxHeartbeats 8000000 in
set_option maxRecDepth 10000 in
theorem ShowUnixS_con (u : DUnix) (hb : unixB u) : Con Tryz.prog 21 [.g [.v (iv u.Next), .v (iv u.Tick), .h base [], .h (base + 1) [], .h (base + 2) [], .h (base + 3) [], .h (base + 4) [], .h (base + 5) [], .h (base + 6) []]] [.rt base .ro (tr u.Progs), .rt (base + 1) .ro (tr u.Procs), .rt (base + 2) .ro (tr u.Opens), .rt (base + 3) .ro (tr u.Pipes), .rt (base + 4) .ro (tr u.Files), .rt (base + 5) .ro (tr u.Ready), .rt (base + 6) .ro (tr u.Out)] (fun y _ => y = .v (.string (showU u))) := by
 refine Con.of_body Tryz.func21 rfl (by simp) ?_
 rw [Tryz.ntmps21]
 refine AW.seq (AW.region ?_)
 refine sp (Stp.boxB rfl (by decide) (by decide) rfl rfl rfl rfl) ?_
 refine nm ?_
 refine qq Qt.assign ?_
 refine nl ?_
 refine AW.seq (AW.seq (AW.region ?_))
 refine qq (Qt.loadG rfl rfl rfl ag38 sz38 (by decide)) ?_
 refine cv Tryz.call11 rfl rfl (UnixOkS_con _ hb) ?_
 refine nm ?_
 refine qq (Qt.notB rfl) ?_
 refine nl ?_
 refine AW.cond rfl (fun c1 => ?_) (fun c1 => ?_)
 ·have k1 := c1
  try simp only [cnd] at c1
  refine AW.seq (AW.region ?_)
  refine qq Qt.assign ?_
  refine nl ?_
  refine AW.ret (endQ_ret (.cons (.tmp 2) .nil) ?_)
  simp only [retX, slotL, reduceIte, Nat.reduceEqDiff]
  congr 2
  rw [showU]
  first | (rw [if_neg (by grind only)]; rfl) | (rw [if_pos (by grind only)])
 have k1 := c1
 try simp only [cnd] at c1
 refine jd (AW.seq (AW.region ?_))
 refine qq (Qt.loadG rfl rfl rfl ag38 sz38 (by decide)) ?_
 refine nm ?_
 refine cv Tryz.call78 rfl rfl (l20Show_con u (showF_of (by grind only))) ?_
 refine nm ?_
 refine qq Qt.assign ?_
 refine nl ?_
 refine AW.ret (endQ_ret (.cons (.tmp 2) .nil) ?_)
 simp only [retX, slotL, reduceIte, Nat.reduceEqDiff]
 congr 2
 rw [showU]
 first | (rw [if_neg (by grind only)]; rfl) | (rw [if_pos (by grind only)])
end Go.Proofs.YtimmbmphfgnelaaGreat.VM
