/- Contracts. No conditions. -/
import Derived.Test.YtldefnpobjabpaaGreatCUQ
import Derived.Test.YtldefnpobjabpaaGreatCU9
set_option linter.all false
set_option maxHeartbeats 8000000
set_option maxRecDepth 10000
namespace Go.Proofs.YtldefnpobjabpaaGreat.VM
open Go Go.RowKit Go.Proofs
theorem l20Show_con (u : DUnix) (hF : ShowF u) : Con Tryz.prog 169 [.g [.v (iv u.Next), .v (iv u.Tick), .h base [], .h (base + 1) [], .h (base + 2) [], .h (base + 3) [], .h (base + 4) [], .h (base + 5) [], .h (base + 6) []]] [.rt base .ro (tr u.Progs), .rt (base + 1) .ro (tr u.Procs), .rt (base + 2) .ro (tr u.Opens), .rt (base + 3) .ro (tr u.Pipes), .rt (base + 4) .ro (tr u.Files), .rt (base + 5) .ro (tr u.Ready), .rt (base + 6) .ro (tr u.Out)] (fun y _ => y = .v (.string (showOf u))) := by
 refine ob Tryz.func169 Tryz.ntmps169 ?_
 refine AW.len (base) [] rfl (by simp [Okp]) rfl (fun hl0 => ?_)
 refine AW.len (base + 1) [] rfl (by simp [Okp]) rfl (fun hl1 => ?_)
 refine AW.len (base + 2) [] rfl (by simp [Okp]) rfl (fun hl2 => ?_)
 refine AW.len (base + 3) [] rfl (by simp [Okp]) rfl (fun hl3 => ?_)
 refine AW.len (base + 4) [] rfl (by simp [Okp]) rfl (fun hl4 => ?_)
 refine AW.len (base + 5) [] rfl (by simp [Okp]) rfl (fun hl5 => ?_)
 have hu1 := varS_size u.Next
 have hu2 := varS_size u.Tick
 have hu9 := wordsS_size u.Out
 have hu10 := hF.out
 have hu11 := hF.ready
 have hu12 := hF.opens
 have hu13 := hF.files
 have hu14 := hF.pipes
 have hu15 := hF.procs
 have hu16 := hF.progs
 have hu20 : (⟨#[117]⟩ : ByteArray).size = 1 := rfl
 have hn0 := varS_size u.Progs.length
 have ho0 := wzA_size hF (k := 0) (Nat.zero_le _)
 have hp0 := wzA_size hF (Nat.le_refl _)
 have hn1 := varS_size u.Procs.length
 have ho1 := wzP_size hF (k := 0) (Nat.zero_le _)
 have hp1 := wzP_size hF (Nat.le_refl _)
 have hn2 := varS_size u.Opens.length
 have ho2 := wzO_size hF (k := 0) (Nat.zero_le _)
 have hp2 := wzO_size hF (Nat.le_refl _)
 have hn3 := varS_size u.Pipes.length
 have ho3 := wzI_size hF (k := 0) (Nat.zero_le _)
 have hp3 := wzI_size hF (Nat.le_refl _)
 have hn4 := varS_size u.Files.length
 have ho4 := wzF_size hF (k := 0) (Nat.zero_le _)
 have hp4 := wzF_size hF (Nat.le_refl _)
 have hn5 := varS_size u.Ready.length
 have ho5 := wzR_size hF (k := 0) (Nat.zero_le _)
 have hp5 := wzR_size hF (Nat.le_refl _)
 refine go [.R,.B,.N,.a,.Z] (k := ?_)
 refine AW.seq ?_
 refine go [.D [0, 1, 3, 4, 5, 7, 8, 9, 10, 12, 13],.t 0,.f,.t 1,.l,.N,.t 4,.f,.t 5,.l,.t 8,.f,.N,.t 9,.l,.t 10,.h] (k := ?_)
 refine a1 2 [4, 5, 8, 9, 10] [1, 0] rfl rfl (Stp.callV rfl (by decide) Tryz.call228 rfl rfl (VarS_con _)) ?_
 refine go [.N,.g,.f,.g,.l,.g,.f,.g,.l,.g,.h,.N] (k := ?_)
 refine tk 3 rfl (Qt.binOp rfl rfl pbC) ?_
 refine a1 6 [3, 8, 9, 10] [5, 2, 4, 1, 0] rfl rfl (Stp.callV rfl (by decide) Tryz.call228 rfl rfl (VarS_con _)) ?_
 refine go [.N] (k := ?_)
 refine ae rfl (Qt.binOp rfl rfl pbC) ?_
 refine go [.g,.f,.g,.l,.g,.h,.N] (k := ?_)
 refine tk 7 rfl (Qt.binOp rfl rfl pbC) ?_
 refine a1 11 [3, 7] [10, 6, 9, 5, 2, 8, 4, 1, 0] rfl rfl (Stp.callV rfl (by decide) Tryz.call228 rfl rfl (VarS_con _)) ?_
 refine go [.N] (k := ?_)
 refine ae rfl (Qt.binOp rfl rfl pbC) ?_
 refine ae rfl (Qt.binOp rfl rfl pbC) ?_
 refine go [.N] (k := ?_)
 refine tk 12 rfl (Qt.binOp rfl rfl pbC) ?_
 refine go [.t 13,.a,.Z,.R2,.a,.Z] (k := ?_)
 refine AW.block ?_
 refine AW.weak (L' := [.sl 4 (.v (iv (0 : Nat))), .sl 3 (.v (.string (wzA u (0 : Nat)))), .rt 1 .box (T.s 9 1 fun k c => ([(T.v (iv u.Next), none), (T.v (iv u.Tick), none), (T.j, none), (T.j, none), (T.j, none), (T.j, none), (T.j, none), (T.j, none), (T.j, none)].getD (k * 9 + c) (T.j, none)).fst), .al 1 2 (.h base []), .al 1 3 (.h (base + 1) []), .al 1 4 (.h (base + 2) []), .al 1 5 (.h (base + 3) []), .al 1 6 (.h (base + 4) []), .al 1 7 (.h (base + 5) []), .al 1 8 (.h (base + 6) []), .rt base .ro (tr u.Progs), .rt (base + 1) .ro (tr u.Procs), .rt (base + 2) .ro (tr u.Opens), .rt (base + 3) .ro (tr u.Pipes), .rt (base + 4) .ro (tr u.Files), .rt (base + 5) .ro (tr u.Ready), .rt (base + 6) .ro (tr u.Out), .sl 1 (.p 1 [] 9 0 0)]) (Weak.sim ⟨rfl, (by simp only [slotL, reduceIte, Nat.reduceEqDiff]; congr 2 <;> (rw [wzA_zero] <;> first | rfl | simp only [ByteArray.append_assoc])), Rf rfl, ⟨rfl, rfl⟩, ⟨rfl, rfl⟩, ⟨rfl, rfl⟩, ⟨rfl, rfl⟩, ⟨rfl, rfl⟩, ⟨rfl, rfl⟩, ⟨rfl, rfl⟩, Rf rfl, Rf rfl, Rf rfl, Rf rfl, Rf rfl, Rf rfl, Rf rfl, rfl, trivial⟩ rfl rfl) ?_
 refine AW.loop (fun i : KInv u.Progs.length => [.sl 4 (.v (iv i.k)), .sl 3 (.v (.string (wzA u i.k))), .rt 1 .box (T.s 9 1 fun k c => ([(T.v (iv u.Next), none), (T.v (iv u.Tick), none), (T.j, none), (T.j, none), (T.j, none), (T.j, none), (T.j, none), (T.j, none), (T.j, none)].getD (k * 9 + c) (T.j, none)).fst), .al 1 2 (.h base []), .al 1 3 (.h (base + 1) []), .al 1 4 (.h (base + 2) []), .al 1 5 (.h (base + 3) []), .al 1 6 (.h (base + 4) []), .al 1 7 (.h (base + 5) []), .al 1 8 (.h (base + 6) []), .rt base .ro (tr u.Progs), .rt (base + 1) .ro (tr u.Procs), .rt (base + 2) .ro (tr u.Opens), .rt (base + 3) .ro (tr u.Pipes), .rt (base + 4) .ro (tr u.Files), .rt (base + 5) .ro (tr u.Ready), .rt (base + 6) .ro (tr u.Out), .sl 1 (.p 1 [] 9 0 0)]) (fun i => u.Progs.length - i.k) ⟨0, Nat.zero_le _⟩ ?_
 intro i
 have hle := i.le
 have hq0 := wzA_size hF (k := i.k) (by omega)
 have hx0 := wzA_succ u i.k
 refine go [.R2,.m,.N,.f,.l,.h,.N,.b,.Z] (k := ?_)
 refine cd (fun c1 => ?_) fun c1 => ?_
 ·try simp only [cnd] at c1
  have hpi := hF.prog i.k (by omega)
  have hpz : (showK (u.Progs.getD i.k En.dflt) (u.Progs.getD i.k En.dflt).length).size ≤ 1127 := progB_size hpi
  have hpf := progFacts hpi
  refine jd (AW.seq (AW.block (AW.region ?_)))
  refine go [.m,.f,.N,.l,.m,.i,.N,.l] (k := ?_)
  refine cv Tryz.call229 rfl rfl (l3Show_con _ hpf.1 hpf.2) ?_
  refine go [.N] (k := ?_)
  refine qq (Qt.binOp rfl rfl pbC) ?_
  refine go [.a,.Z,.R1,.m,.N,.b,.a,.Z] (k := ?_)
  refine ⟨⟨i.k + 1, by omega⟩, Weak.sim ⟨st1, (by simp only [slotL, reduceIte, Nat.reduceEqDiff]; congr 2 <;> (rw [hx0] <;> first | rfl | simp only [progB, ByteArray.append_assoc])), Rf rfl, ⟨rfl, rfl⟩, ⟨rfl, rfl⟩, ⟨rfl, rfl⟩, ⟨rfl, rfl⟩, ⟨rfl, rfl⟩, ⟨rfl, rfl⟩, ⟨rfl, rfl⟩, Rf rfl, Rf rfl, Rf rfl, Rf rfl, Rf rfl, Rf rfl, Rf rfl, rfl, trivial⟩ rfl rfl, ?_⟩
  show u.Progs.length - (i.k + 1) < u.Progs.length - i.k
  omega
 try simp only [cnd] at c1
 refine AW.exit ?_
 dsimp only [thenQ, blockQ, reduceIte]
 refine go [.R,.m,.N,.f,.l,.h,.N] (k := ?_)
 refine cv Tryz.call228 rfl rfl (VarS_con _) ?_
 refine go [.N] (k := ?_)
 refine qq (Qt.binOp rfl rfl pbC) ?_
 refine go [.a,.Z,.R2,.a,.Z] (k := ?_)
 refine AW.block ?_
 refine AW.weak (L' := [.sl 5 (.v (iv (0 : Nat))), .sl 3 (.v (.string (wzP u (0 : Nat)))), .rt 1 .box (T.s 9 1 fun k c => ([(T.v (iv u.Next), none), (T.v (iv u.Tick), none), (T.j, none), (T.j, none), (T.j, none), (T.j, none), (T.j, none), (T.j, none), (T.j, none)].getD (k * 9 + c) (T.j, none)).fst), .al 1 2 (.h base []), .al 1 3 (.h (base + 1) []), .al 1 4 (.h (base + 2) []), .al 1 5 (.h (base + 3) []), .al 1 6 (.h (base + 4) []), .al 1 7 (.h (base + 5) []), .al 1 8 (.h (base + 6) []), .rt base .ro (tr u.Progs), .rt (base + 1) .ro (tr u.Procs), .rt (base + 2) .ro (tr u.Opens), .rt (base + 3) .ro (tr u.Pipes), .rt (base + 4) .ro (tr u.Files), .rt (base + 5) .ro (tr u.Ready), .rt (base + 6) .ro (tr u.Out), .sl 1 (.p 1 [] 9 0 0)]) (Weak.sim ⟨rfl, (by simp only [slotL, reduceIte, Nat.reduceEqDiff]; congr 2 <;> (rw [wzP_zero, show wzA u i.k = wzA u u.Progs.length from congrArg (wzA u) (show i.k = u.Progs.length by omega)] <;> first | rfl | simp only [ByteArray.append_assoc])), Rf rfl, ⟨rfl, rfl⟩, ⟨rfl, rfl⟩, ⟨rfl, rfl⟩, ⟨rfl, rfl⟩, ⟨rfl, rfl⟩, ⟨rfl, rfl⟩, ⟨rfl, rfl⟩, Rf rfl, Rf rfl, Rf rfl, Rf rfl, Rf rfl, Rf rfl, Rf rfl, rfl, trivial⟩ rfl rfl) ?_
 refine AW.loop (fun j : KInv u.Procs.length => [.sl 5 (.v (iv j.k)), .sl 3 (.v (.string (wzP u j.k))), .rt 1 .box (T.s 9 1 fun k c => ([(T.v (iv u.Next), none), (T.v (iv u.Tick), none), (T.j, none), (T.j, none), (T.j, none), (T.j, none), (T.j, none), (T.j, none), (T.j, none)].getD (k * 9 + c) (T.j, none)).fst), .al 1 2 (.h base []), .al 1 3 (.h (base + 1) []), .al 1 4 (.h (base + 2) []), .al 1 5 (.h (base + 3) []), .al 1 6 (.h (base + 4) []), .al 1 7 (.h (base + 5) []), .al 1 8 (.h (base + 6) []), .rt base .ro (tr u.Progs), .rt (base + 1) .ro (tr u.Procs), .rt (base + 2) .ro (tr u.Opens), .rt (base + 3) .ro (tr u.Pipes), .rt (base + 4) .ro (tr u.Files), .rt (base + 5) .ro (tr u.Ready), .rt (base + 6) .ro (tr u.Out), .sl 1 (.p 1 [] 9 0 0)]) (fun j => u.Procs.length - j.k) ⟨0, Nat.zero_le _⟩ ?_
 intro j
 have hlej := j.le
 have hq1 := wzP_size hF (k := j.k) (by omega)
 have hx1 := wzP_succ u j.k
 refine go [.R2,.m,.N,.f,.l,.h,.N,.b,.Z] (k := ?_)
 refine cd (fun c2 => ?_) fun c2 => ?_
 ·try simp only [cnd] at c2
  have hpi := hF.proc j.k (by omega)
  have hpz := procB_size hpi
  refine jd (AW.seq (AW.block (AW.region ?_)))
  refine go [.m,.f,.N,.l,.m,.i,.N,.G] (k := ?_)
  refine cv Tryz.call230 rfl rfl (l20Proc_con _ hpi) ?_
  refine go [.N] (k := ?_)
  refine qq (Qt.binOp rfl rfl pbC) ?_
  refine go [.a,.Z,.R1,.m,.N,.b,.a,.Z] (k := ?_)
  refine ⟨⟨j.k + 1, by omega⟩, Weak.sim ⟨st1, (by simp only [slotL, reduceIte, Nat.reduceEqDiff]; congr 2 <;> (rw [hx1] <;> first | rfl | simp only [procB, ByteArray.append_assoc])), Rf rfl, ⟨rfl, rfl⟩, ⟨rfl, rfl⟩, ⟨rfl, rfl⟩, ⟨rfl, rfl⟩, ⟨rfl, rfl⟩, ⟨rfl, rfl⟩, ⟨rfl, rfl⟩, Rf rfl, Rf rfl, Rf rfl, Rf rfl, Rf rfl, Rf rfl, Rf rfl, rfl, trivial⟩ rfl rfl, ?_⟩
  show u.Procs.length - (j.k + 1) < u.Procs.length - j.k
  omega
 try simp only [cnd] at c2
 refine AW.exit ?_
 dsimp only [thenQ, blockQ, reduceIte]
 refine go [.R,.m,.N,.f,.l,.h,.N] (k := ?_)
 refine cv Tryz.call228 rfl rfl (VarS_con _) ?_
 refine go [.N] (k := ?_)
 refine qq (Qt.binOp rfl rfl pbC) ?_
 refine go [.a,.Z,.R2,.a,.Z] (k := ?_)
 refine AW.block ?_
 refine AW.weak (L' := [.sl 6 (.v (iv (0 : Nat))), .sl 3 (.v (.string (wzO u (0 : Nat)))), .rt 1 .box (T.s 9 1 fun k c => ([(T.v (iv u.Next), none), (T.v (iv u.Tick), none), (T.j, none), (T.j, none), (T.j, none), (T.j, none), (T.j, none), (T.j, none), (T.j, none)].getD (k * 9 + c) (T.j, none)).fst), .al 1 2 (.h base []), .al 1 3 (.h (base + 1) []), .al 1 4 (.h (base + 2) []), .al 1 5 (.h (base + 3) []), .al 1 6 (.h (base + 4) []), .al 1 7 (.h (base + 5) []), .al 1 8 (.h (base + 6) []), .rt base .ro (tr u.Progs), .rt (base + 1) .ro (tr u.Procs), .rt (base + 2) .ro (tr u.Opens), .rt (base + 3) .ro (tr u.Pipes), .rt (base + 4) .ro (tr u.Files), .rt (base + 5) .ro (tr u.Ready), .rt (base + 6) .ro (tr u.Out), .sl 1 (.p 1 [] 9 0 0)]) (Weak.sim ⟨rfl, (by simp only [slotL, reduceIte, Nat.reduceEqDiff]; congr 2 <;> (rw [wzO_zero, show wzP u j.k = wzP u u.Procs.length from congrArg (wzP u) (show j.k = u.Procs.length by omega)] <;> first | rfl | simp only [ByteArray.append_assoc])), Rf rfl, ⟨rfl, rfl⟩, ⟨rfl, rfl⟩, ⟨rfl, rfl⟩, ⟨rfl, rfl⟩, ⟨rfl, rfl⟩, ⟨rfl, rfl⟩, ⟨rfl, rfl⟩, Rf rfl, Rf rfl, Rf rfl, Rf rfl, Rf rfl, Rf rfl, Rf rfl, rfl, trivial⟩ rfl rfl) ?_
 refine AW.loop (fun m : KInv u.Opens.length => [.sl 6 (.v (iv m.k)), .sl 3 (.v (.string (wzO u m.k))), .rt 1 .box (T.s 9 1 fun k c => ([(T.v (iv u.Next), none), (T.v (iv u.Tick), none), (T.j, none), (T.j, none), (T.j, none), (T.j, none), (T.j, none), (T.j, none), (T.j, none)].getD (k * 9 + c) (T.j, none)).fst), .al 1 2 (.h base []), .al 1 3 (.h (base + 1) []), .al 1 4 (.h (base + 2) []), .al 1 5 (.h (base + 3) []), .al 1 6 (.h (base + 4) []), .al 1 7 (.h (base + 5) []), .al 1 8 (.h (base + 6) []), .rt base .ro (tr u.Progs), .rt (base + 1) .ro (tr u.Procs), .rt (base + 2) .ro (tr u.Opens), .rt (base + 3) .ro (tr u.Pipes), .rt (base + 4) .ro (tr u.Files), .rt (base + 5) .ro (tr u.Ready), .rt (base + 6) .ro (tr u.Out), .sl 1 (.p 1 [] 9 0 0)]) (fun m => u.Opens.length - m.k) ⟨0, Nat.zero_le _⟩ ?_
 intro m
 have hlem := m.le
 have hq2 := wzO_size hF (k := m.k) (by omega)
 have hx2 := wzO_succ u m.k
 have hy2_0 := varS_size (u.Opens.getD m.k En.dflt).Id
 have hy2_1 := varS_size (u.Opens.getD m.k En.dflt).Kind
 have hy2_2 := varS_size (u.Opens.getD m.k En.dflt).Target
 have hy2_3 := varS_size (u.Opens.getD m.k En.dflt).Off
 have hy2_4 := varS_size (u.Opens.getD m.k En.dflt).Refs
 refine go [.R2,.m,.N,.f,.l,.h,.N,.b,.Z] (k := ?_)
 refine cd (fun c3 => ?_) fun c3 => ?_
 ·try simp only [cnd] at c3
  refine jd (AW.seq (AW.block (sr ?_)))
  refine go [.f,.l,.N,.m,.i,.G,.N,.A,.N,.s,.Z,.D [0, 1, 2, 4, 5, 6, 8, 9, 10, 12, 13, 14, 16, 17, 18, 20],.t 0,.m,.N,.t 1,.f,.t 2,.l,.t 5,.f,.N,.t 6,.l,.t 9,.f,.t 10,.l,.N,.t 13,.f,.t 14,.l,.t 17,.f,.N,.t 18,.l] (k := ?_)
  refine a1 3 [0, 5, 6, 9, 10, 13, 14, 17, 18] [2, 1] rfl rfl (Stp.callV rfl (by decide) Tryz.call228 rfl rfl (VarS_con _)) ?_
  refine go [.N,.g,.m,.g,.f,.g,.l,.g,.f,.g,.l,.g,.f,.g,.l,.g,.f,.g,.l,.N] (k := ?_)
  refine tk 4 rfl (Qt.binOp rfl rfl pbC) ?_
  refine a1 7 [0, 4, 9, 10, 13, 14, 17, 18] [6, 3, 5, 2, 1] rfl rfl (Stp.callV rfl (by decide) Tryz.call228 rfl rfl (VarS_con _)) ?_
  refine go [.N,.g,.m] (k := ?_)
  refine ae rfl (Qt.binOp rfl rfl pbC) ?_
  refine go [.g,.f,.g,.l,.g,.f,.g,.l,.g,.f,.g,.l,.N] (k := ?_)
  refine tk 8 rfl (Qt.binOp rfl rfl pbC) ?_
  refine a1 11 [0, 4, 8, 13, 14, 17, 18] [10, 7, 9, 6, 3, 5, 2, 1] rfl rfl (Stp.callV rfl (by decide) Tryz.call228 rfl rfl (VarS_con _)) ?_
  refine go [.N,.g,.m] (k := ?_)
  refine ae rfl (Qt.binOp rfl rfl pbC) ?_
  refine ae rfl (Qt.binOp rfl rfl pbC) ?_
  refine go [.g,.f,.g,.l,.g,.f,.g,.l,.N] (k := ?_)
  refine tk 12 rfl (Qt.binOp rfl rfl pbC) ?_
  refine a1 15 [0, 4, 8, 12, 17, 18] [14, 11, 13, 10, 7, 9, 6, 3, 5, 2, 1] rfl rfl (Stp.callV rfl (by decide) Tryz.call228 rfl rfl (VarS_con _)) ?_
  refine go [.N,.g,.m] (k := ?_)
  refine ae rfl (Qt.binOp rfl rfl pbC) ?_
  refine ae rfl (Qt.binOp rfl rfl pbC) ?_
  refine ae rfl (Qt.binOp rfl rfl pbC) ?_
  refine go [.g,.f,.g,.l,.N] (k := ?_)
  refine tk 16 rfl (Qt.binOp rfl rfl pbC) ?_
  refine a1 19 [0, 4, 8, 12, 16] [18, 15, 17, 14, 11, 13, 10, 7, 9, 6, 3, 5, 2, 1] rfl rfl (Stp.callV rfl (by decide) Tryz.call228 rfl rfl (VarS_con _)) ?_
  refine go [.N,.g,.m] (k := ?_)
  refine ae rfl (Qt.binOp rfl rfl pbC) ?_
  refine ae rfl (Qt.binOp rfl rfl pbC) ?_
  refine ae rfl (Qt.binOp rfl rfl pbC) ?_
  refine ae rfl (Qt.binOp rfl rfl pbC) ?_
  refine go [.N] (k := ?_)
  refine tk 20 rfl (Qt.binOp rfl rfl pbC) ?_
  refine a1 21 [] [20, 19, 18, 17, 16, 15, 14, 13, 12, 11, 10, 9, 8, 7, 6, 5, 4, 3, 2, 1, 0] rfl rfl (Stp.q rfl (by decide) Qt.assign) ?_
  refine go [.N,.Z,.R1,.m,.b,.a,.Z] (k := ?_)
  refine ⟨⟨m.k + 1, by omega⟩, Weak.sim ⟨st1, (by simp only [slotL, reduceIte, Nat.reduceEqDiff]; congr 2 <;> (rw [hx2] <;> first | rfl | simp only [openB, ByteArray.append_assoc])), Rf rfl, ⟨rfl, rfl⟩, ⟨rfl, rfl⟩, ⟨rfl, rfl⟩, ⟨rfl, rfl⟩, ⟨rfl, rfl⟩, ⟨rfl, rfl⟩, ⟨rfl, rfl⟩, Rf rfl, Rf rfl, Rf rfl, Rf rfl, Rf rfl, Rf rfl, Rf rfl, rfl, trivial⟩ rfl rfl, ?_⟩
  show u.Opens.length - (m.k + 1) < u.Opens.length - m.k
  omega
 try simp only [cnd] at c3
 refine AW.exit ?_
 dsimp only [thenQ, blockQ, reduceIte]
 refine go [.R,.m,.N,.f,.l,.h,.N] (k := ?_)
 refine cv Tryz.call228 rfl rfl (VarS_con _) ?_
 refine go [.N] (k := ?_)
 refine qq (Qt.binOp rfl rfl pbC) ?_
 refine go [.a,.Z,.R2,.a,.Z] (k := ?_)
 refine AW.block ?_
 refine AW.weak (L' := [.sl 8 (.v (iv (0 : Nat))), .sl 3 (.v (.string (wzI u (0 : Nat)))), .rt 1 .box (T.s 9 1 fun k c => ([(T.v (iv u.Next), none), (T.v (iv u.Tick), none), (T.j, none), (T.j, none), (T.j, none), (T.j, none), (T.j, none), (T.j, none), (T.j, none)].getD (k * 9 + c) (T.j, none)).fst), .al 1 2 (.h base []), .al 1 3 (.h (base + 1) []), .al 1 4 (.h (base + 2) []), .al 1 5 (.h (base + 3) []), .al 1 6 (.h (base + 4) []), .al 1 7 (.h (base + 5) []), .al 1 8 (.h (base + 6) []), .rt base .ro (tr u.Progs), .rt (base + 1) .ro (tr u.Procs), .rt (base + 2) .ro (tr u.Opens), .rt (base + 3) .ro (tr u.Pipes), .rt (base + 4) .ro (tr u.Files), .rt (base + 5) .ro (tr u.Ready), .rt (base + 6) .ro (tr u.Out), .sl 1 (.p 1 [] 9 0 0)]) (Weak.sim ⟨rfl, (by simp only [slotL, reduceIte, Nat.reduceEqDiff]; congr 2 <;> (rw [wzI_zero, show wzO u m.k = wzO u u.Opens.length from congrArg (wzO u) (show m.k = u.Opens.length by omega)] <;> first | rfl | simp only [ByteArray.append_assoc])), Rf rfl, ⟨rfl, rfl⟩, ⟨rfl, rfl⟩, ⟨rfl, rfl⟩, ⟨rfl, rfl⟩, ⟨rfl, rfl⟩, ⟨rfl, rfl⟩, ⟨rfl, rfl⟩, Rf rfl, Rf rfl, Rf rfl, Rf rfl, Rf rfl, Rf rfl, Rf rfl, rfl, trivial⟩ rfl rfl) ?_
 refine AW.loop (fun n : KInv u.Pipes.length => [.sl 8 (.v (iv n.k)), .sl 3 (.v (.string (wzI u n.k))), .rt 1 .box (T.s 9 1 fun k c => ([(T.v (iv u.Next), none), (T.v (iv u.Tick), none), (T.j, none), (T.j, none), (T.j, none), (T.j, none), (T.j, none), (T.j, none), (T.j, none)].getD (k * 9 + c) (T.j, none)).fst), .al 1 2 (.h base []), .al 1 3 (.h (base + 1) []), .al 1 4 (.h (base + 2) []), .al 1 5 (.h (base + 3) []), .al 1 6 (.h (base + 4) []), .al 1 7 (.h (base + 5) []), .al 1 8 (.h (base + 6) []), .rt base .ro (tr u.Progs), .rt (base + 1) .ro (tr u.Procs), .rt (base + 2) .ro (tr u.Opens), .rt (base + 3) .ro (tr u.Pipes), .rt (base + 4) .ro (tr u.Files), .rt (base + 5) .ro (tr u.Ready), .rt (base + 6) .ro (tr u.Out), .sl 1 (.p 1 [] 9 0 0)]) (fun n => u.Pipes.length - n.k) ⟨0, Nat.zero_le _⟩ ?_
 intro n
 have hlen := n.le
 have hq3 := wzI_size hF (k := n.k) (by omega)
 have hx3 := wzI_succ u n.k
 have hy3_0 := varS_size (u.Pipes.getD n.k En.dflt).Id
 have hz3 := wordsS_size (u.Pipes.getD n.k En.dflt).Data
 refine go [.R2,.m,.N,.f,.l,.h,.N,.b,.Z] (k := ?_)
 refine cd (fun c4 => ?_) fun c4 => ?_
 ·try simp only [cnd] at c4
  have hpi := hF.pipe n.k (by omega)
  refine jd (AW.seq (AW.block ?_))
  refine go [.D [0, 1, 2, 3, 4, 5, 6, 8, 9, 10, 11, 12, 13, 14, 16],.t 0,.m,.t 1,.f,.N,.t 2,.l,.t 3,.m,.t 4,.i,.N,.t 5,.f,.t 6,.l,.t 9,.f,.N,.t 10,.l,.t 11,.m,.t 12,.i,.N,.t 13,.f,.t 14,.l] (k := ?_)
  refine a1 7 [0, 9, 10, 11, 12, 13, 14] [6, 5, 4, 3, 2, 1] rfl rfl (Stp.callV rfl (by decide) Tryz.call228 rfl rfl (VarS_con _)) ?_
  refine go [.N,.g,.m,.g,.f,.g,.l,.g,.m,.g,.i,.g,.f,.g,.l,.N] (k := ?_)
  refine tk 8 rfl (Qt.binOp rfl rfl pbC) ?_
  refine a1 15 [0, 8] [14, 7, 13, 6, 12, 5, 11, 10, 4, 9, 3, 2, 1] rfl rfl (Stp.callV rfl (by decide) Tryz.call231 rfl rfl (l20Words_con _ (by first | exact hF.outW | exact hpi.2) (by first | omega | (have := hpi.1; omega)))) ?_
  refine go [.N,.g,.m] (k := ?_)
  refine ae rfl (Qt.binOp rfl rfl pbC) ?_
  refine go [.N] (k := ?_)
  refine tk 16 rfl (Qt.binOp rfl rfl pbC) ?_
  refine a1 17 [] [16, 15, 14, 13, 12, 11, 10, 9, 8, 7, 6, 5, 4, 3, 2, 1, 0] rfl rfl (Stp.q rfl (by decide) Qt.assign) ?_
  refine go [.N,.Z,.R1,.m,.b,.a,.Z] (k := ?_)
  refine ⟨⟨n.k + 1, by omega⟩, Weak.sim ⟨st1, (by simp only [slotL, reduceIte, Nat.reduceEqDiff]; congr 2 <;> (rw [hx3] <;> first | rfl | simp only [pipeB, ByteArray.append_assoc])), Rf rfl, ⟨rfl, rfl⟩, ⟨rfl, rfl⟩, ⟨rfl, rfl⟩, ⟨rfl, rfl⟩, ⟨rfl, rfl⟩, ⟨rfl, rfl⟩, ⟨rfl, rfl⟩, Rf rfl, Rf rfl, Rf rfl, Rf rfl, Rf rfl, Rf rfl, Rf rfl, rfl, trivial⟩ rfl rfl, ?_⟩
  show u.Pipes.length - (n.k + 1) < u.Pipes.length - n.k
  omega
 try simp only [cnd] at c4
 refine AW.exit ?_
 dsimp only [thenQ, blockQ, reduceIte]
 refine go [.R,.m,.N,.f,.l,.h,.N] (k := ?_)
 refine cv Tryz.call228 rfl rfl (VarS_con _) ?_
 refine go [.N] (k := ?_)
 refine qq (Qt.binOp rfl rfl pbC) ?_
 refine go [.a,.Z,.R2,.a,.Z] (k := ?_)
 refine AW.block ?_
 refine AW.weak (L' := [.sl 9 (.v (iv (0 : Nat))), .sl 3 (.v (.string (wzF u (0 : Nat)))), .rt 1 .box (T.s 9 1 fun k c => ([(T.v (iv u.Next), none), (T.v (iv u.Tick), none), (T.j, none), (T.j, none), (T.j, none), (T.j, none), (T.j, none), (T.j, none), (T.j, none)].getD (k * 9 + c) (T.j, none)).fst), .al 1 2 (.h base []), .al 1 3 (.h (base + 1) []), .al 1 4 (.h (base + 2) []), .al 1 5 (.h (base + 3) []), .al 1 6 (.h (base + 4) []), .al 1 7 (.h (base + 5) []), .al 1 8 (.h (base + 6) []), .rt base .ro (tr u.Progs), .rt (base + 1) .ro (tr u.Procs), .rt (base + 2) .ro (tr u.Opens), .rt (base + 3) .ro (tr u.Pipes), .rt (base + 4) .ro (tr u.Files), .rt (base + 5) .ro (tr u.Ready), .rt (base + 6) .ro (tr u.Out), .sl 1 (.p 1 [] 9 0 0)]) (Weak.sim ⟨rfl, (by simp only [slotL, reduceIte, Nat.reduceEqDiff]; congr 2 <;> (rw [wzF_zero, show wzI u n.k = wzI u u.Pipes.length from congrArg (wzI u) (show n.k = u.Pipes.length by omega)] <;> first | rfl | simp only [ByteArray.append_assoc])), Rf rfl, ⟨rfl, rfl⟩, ⟨rfl, rfl⟩, ⟨rfl, rfl⟩, ⟨rfl, rfl⟩, ⟨rfl, rfl⟩, ⟨rfl, rfl⟩, ⟨rfl, rfl⟩, Rf rfl, Rf rfl, Rf rfl, Rf rfl, Rf rfl, Rf rfl, Rf rfl, rfl, trivial⟩ rfl rfl) ?_
 refine AW.loop (fun o : KInv u.Files.length => [.sl 9 (.v (iv o.k)), .sl 3 (.v (.string (wzF u o.k))), .rt 1 .box (T.s 9 1 fun k c => ([(T.v (iv u.Next), none), (T.v (iv u.Tick), none), (T.j, none), (T.j, none), (T.j, none), (T.j, none), (T.j, none), (T.j, none), (T.j, none)].getD (k * 9 + c) (T.j, none)).fst), .al 1 2 (.h base []), .al 1 3 (.h (base + 1) []), .al 1 4 (.h (base + 2) []), .al 1 5 (.h (base + 3) []), .al 1 6 (.h (base + 4) []), .al 1 7 (.h (base + 5) []), .al 1 8 (.h (base + 6) []), .rt base .ro (tr u.Progs), .rt (base + 1) .ro (tr u.Procs), .rt (base + 2) .ro (tr u.Opens), .rt (base + 3) .ro (tr u.Pipes), .rt (base + 4) .ro (tr u.Files), .rt (base + 5) .ro (tr u.Ready), .rt (base + 6) .ro (tr u.Out), .sl 1 (.p 1 [] 9 0 0)]) (fun o => u.Files.length - o.k) ⟨0, Nat.zero_le _⟩ ?_
 intro o
 have hleo := o.le
 have hq4 := wzF_size hF (k := o.k) (by omega)
 have hx4 := wzF_succ u o.k
 have hy4_0 := varS_size (u.Files.getD o.k En.dflt).Name
 have hz4 := wordsS_size (u.Files.getD o.k En.dflt).Data
 refine go [.R2,.m,.N,.f,.l,.h,.N,.b,.Z] (k := ?_)
 refine cd (fun c5 => ?_) fun c5 => ?_
 ·try simp only [cnd] at c5
  have hpi := hF.file o.k (by omega)
  refine jd (AW.seq (AW.block ?_))
  refine go [.D [0, 1, 2, 3, 4, 5, 6, 8, 9, 10, 11, 12, 13, 14, 16],.t 0,.m,.t 1,.f,.N,.t 2,.l,.t 3,.m,.t 4,.i,.N,.t 5,.f,.t 6,.l,.t 9,.f,.N,.t 10,.l,.t 11,.m,.t 12,.i,.N,.t 13,.f,.t 14,.l] (k := ?_)
  refine a1 7 [0, 9, 10, 11, 12, 13, 14] [6, 5, 4, 3, 2, 1] rfl rfl (Stp.callV rfl (by decide) Tryz.call228 rfl rfl (VarS_con _)) ?_
  refine go [.N,.g,.m,.g,.f,.g,.l,.g,.m,.g,.i,.g,.f,.g,.l,.N] (k := ?_)
  refine tk 8 rfl (Qt.binOp rfl rfl pbC) ?_
  refine a1 15 [0, 8] [14, 7, 13, 6, 12, 5, 11, 10, 4, 9, 3, 2, 1] rfl rfl (Stp.callV rfl (by decide) Tryz.call231 rfl rfl (l20Words_con _ (by first | exact hF.outW | exact hpi.2) (by first | omega | (have := hpi.1; omega)))) ?_
  refine go [.N,.g,.m] (k := ?_)
  refine ae rfl (Qt.binOp rfl rfl pbC) ?_
  refine go [.N] (k := ?_)
  refine tk 16 rfl (Qt.binOp rfl rfl pbC) ?_
  refine a1 17 [] [16, 15, 14, 13, 12, 11, 10, 9, 8, 7, 6, 5, 4, 3, 2, 1, 0] rfl rfl (Stp.q rfl (by decide) Qt.assign) ?_
  refine go [.N,.Z,.R1,.m,.b,.a,.Z] (k := ?_)
  refine ⟨⟨o.k + 1, by omega⟩, Weak.sim ⟨st1, (by simp only [slotL, reduceIte, Nat.reduceEqDiff]; congr 2 <;> (rw [hx4] <;> first | rfl | simp only [fileB, ByteArray.append_assoc])), Rf rfl, ⟨rfl, rfl⟩, ⟨rfl, rfl⟩, ⟨rfl, rfl⟩, ⟨rfl, rfl⟩, ⟨rfl, rfl⟩, ⟨rfl, rfl⟩, ⟨rfl, rfl⟩, Rf rfl, Rf rfl, Rf rfl, Rf rfl, Rf rfl, Rf rfl, Rf rfl, rfl, trivial⟩ rfl rfl, ?_⟩
  show u.Files.length - (o.k + 1) < u.Files.length - o.k
  omega
 try simp only [cnd] at c5
 refine AW.exit ?_
 dsimp only [thenQ, blockQ, reduceIte]
 refine go [.R,.m,.N,.f,.l,.h,.N] (k := ?_)
 refine cv Tryz.call228 rfl rfl (VarS_con _) ?_
 refine go [.N] (k := ?_)
 refine qq (Qt.binOp rfl rfl pbC) ?_
 refine go [.a,.Z,.R2,.a,.Z] (k := ?_)
 refine AW.block ?_
 refine AW.weak (L' := [.sl 10 (.v (iv (0 : Nat))), .sl 3 (.v (.string (wzR u (0 : Nat)))), .rt 1 .box (T.s 9 1 fun k c => ([(T.v (iv u.Next), none), (T.v (iv u.Tick), none), (T.j, none), (T.j, none), (T.j, none), (T.j, none), (T.j, none), (T.j, none), (T.j, none)].getD (k * 9 + c) (T.j, none)).fst), .al 1 2 (.h base []), .al 1 3 (.h (base + 1) []), .al 1 4 (.h (base + 2) []), .al 1 5 (.h (base + 3) []), .al 1 6 (.h (base + 4) []), .al 1 7 (.h (base + 5) []), .al 1 8 (.h (base + 6) []), .rt base .ro (tr u.Progs), .rt (base + 1) .ro (tr u.Procs), .rt (base + 2) .ro (tr u.Opens), .rt (base + 3) .ro (tr u.Pipes), .rt (base + 4) .ro (tr u.Files), .rt (base + 5) .ro (tr u.Ready), .rt (base + 6) .ro (tr u.Out), .sl 1 (.p 1 [] 9 0 0)]) (Weak.sim ⟨rfl, (by simp only [slotL, reduceIte, Nat.reduceEqDiff]; congr 2 <;> (rw [wzR_zero, show wzF u o.k = wzF u u.Files.length from congrArg (wzF u) (show o.k = u.Files.length by omega)] <;> first | rfl | simp only [ByteArray.append_assoc])), Rf rfl, ⟨rfl, rfl⟩, ⟨rfl, rfl⟩, ⟨rfl, rfl⟩, ⟨rfl, rfl⟩, ⟨rfl, rfl⟩, ⟨rfl, rfl⟩, ⟨rfl, rfl⟩, Rf rfl, Rf rfl, Rf rfl, Rf rfl, Rf rfl, Rf rfl, Rf rfl, rfl, trivial⟩ rfl rfl) ?_
 refine AW.loop (fun q : KInv u.Ready.length => [.sl 10 (.v (iv q.k)), .sl 3 (.v (.string (wzR u q.k))), .rt 1 .box (T.s 9 1 fun k c => ([(T.v (iv u.Next), none), (T.v (iv u.Tick), none), (T.j, none), (T.j, none), (T.j, none), (T.j, none), (T.j, none), (T.j, none), (T.j, none)].getD (k * 9 + c) (T.j, none)).fst), .al 1 2 (.h base []), .al 1 3 (.h (base + 1) []), .al 1 4 (.h (base + 2) []), .al 1 5 (.h (base + 3) []), .al 1 6 (.h (base + 4) []), .al 1 7 (.h (base + 5) []), .al 1 8 (.h (base + 6) []), .rt base .ro (tr u.Progs), .rt (base + 1) .ro (tr u.Procs), .rt (base + 2) .ro (tr u.Opens), .rt (base + 3) .ro (tr u.Pipes), .rt (base + 4) .ro (tr u.Files), .rt (base + 5) .ro (tr u.Ready), .rt (base + 6) .ro (tr u.Out), .sl 1 (.p 1 [] 9 0 0)]) (fun q => u.Ready.length - q.k) ⟨0, Nat.zero_le _⟩ ?_
 intro q
 have hleq := q.le
 have hq5 := wzR_size hF (k := q.k) (by omega)
 have hx5 := wzR_succ u q.k
 have hy5 := varS_size (u.Ready.getD q.k En.dflt)
 refine go [.R2,.m,.N,.f,.l,.h,.N,.b,.Z] (k := ?_)
 refine cd (fun c6 => ?_) fun c6 => ?_
 ·try simp only [cnd] at c6
  refine jd (AW.seq (AW.block (AW.region ?_)))
  refine go [.m,.f,.N,.l,.m,.i,.N,.l] (k := ?_)
  refine cv Tryz.call228 rfl rfl (VarS_con _) ?_
  refine go [.N] (k := ?_)
  refine qq (Qt.binOp rfl rfl pbC) ?_
  refine go [.a,.Z,.R1,.m,.N,.b,.a,.Z] (k := ?_)
  refine ⟨⟨q.k + 1, by omega⟩, Weak.sim ⟨st1, (by simp only [slotL, reduceIte, Nat.reduceEqDiff]; congr 2 <;> (rw [hx5] <;> first | rfl | simp only [varS, ByteArray.append_assoc])), Rf rfl, ⟨rfl, rfl⟩, ⟨rfl, rfl⟩, ⟨rfl, rfl⟩, ⟨rfl, rfl⟩, ⟨rfl, rfl⟩, ⟨rfl, rfl⟩, ⟨rfl, rfl⟩, Rf rfl, Rf rfl, Rf rfl, Rf rfl, Rf rfl, Rf rfl, Rf rfl, rfl, trivial⟩ rfl rfl, ?_⟩
  show u.Ready.length - (q.k + 1) < u.Ready.length - q.k
  omega
 try simp only [cnd] at c6
 refine AW.exit ?_
 dsimp only [thenQ, blockQ, reduceIte]
 refine go [.R,.m,.N,.f,.l] (k := ?_)
 refine cv Tryz.call231 rfl rfl (l20Words_con _ (by first | exact hF.outW | exact hpi.2) (by first | omega | (have := hpi.1; omega))) ?_
 refine go [.N] (k := ?_)
 refine qq (Qt.binOp rfl rfl pbC) ?_
 refine go [.a,.Z] (k := ?_)
 refine rt1 2 ?_
 rw [show showOf u = wzR u q.k ++ wordsS u.Out from by rw [showOf, show q.k = u.Ready.length by omega]]
 rfl
end Go.Proofs.YtldefnpobjabpaaGreat.VM

