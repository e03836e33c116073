/- Contracts. No conditions. -/
import Derived.Test.YthjfgpkjooaahaaGreatCUB
set_option linter.all false
set_option maxHeartbeats 8000000
set_option maxRecDepth 10000
namespace Go.Proofs.YthjfgpkjooaahaaGreat.VM
open Go Go.RowKit Go.Proofs
theorem refsOfI_con (u : DUnix) (id : Int) (hb : unixB u) : Con Tryz.prog 268 [.g [.v (iv u.Next), .v (iv u.Tick), .h base [], .h (base + 1) [], .h (base + 2) [], .h (base + 3) [], .h (base + 4) [], .h (base + 5) [], .h (base + 6) []], .v (iv id)] [.rt base .ro (tr u.Progs), .rt (base + 1) .ro (tr u.Procs), .rt (base + 2) .ro (tr u.Opens), .rt (base + 3) .ro (tr u.Pipes), .rt (base + 4) .ro (tr u.Files), .rt (base + 5) .ro (tr u.Ready), .rt (base + 6) .ro (tr u.Out)] (fun y _ => y = .v (iv (refsOf u id : Nat))) := by
 refine ob Tryz.func268 Tryz.ntmps268 ?_
 refine AW.len (base + 1) [] rfl (by simp [Okp]) rfl (fun hl => ?_)
 have hrb := refsOf_bd hb id
 refine go [.R,.B,.N,.a,.Z,.R,.a,.Z,.R2,.f,.N,.l,.h,.m,.Z] (k := ?_)
 refine AW.block ?_
 refine AW.loopW (fun i : KInv u.Procs.length => [.sl 13 (.v (iv i.k)), .sl 5 (.v (iv (refsN u id i.k : Nat))), .sl 1 (.v (iv id)), .sl 11 (.h (base + 1) []), .sl 12 (.v (iv u.Procs.length)), .rt base .ro (tr u.Progs), .rt (base + 1) .ro (tr u.Procs), .rt (base + 2) .ro (tr u.Opens), .rt (base + 3) .ro (tr u.Pipes), .rt (base + 4) .ro (tr u.Files), .rt (base + 5) .ro (tr u.Ready), .rt (base + 6) .ro (tr u.Out)]) (fun i => u.Procs.length - i.k) ⟨0, Nat.zero_le _⟩ (ws) ?_
 intro i
 have hle := i.le
 have hm1 : i.k < u.Procs.length → refsN u id (i.k + 1) ≤ refsOf u id := fun h => cumN_mono (by omega)
 have hs1 : refsN u id (i.k + 1) = refsN u id i.k + fdCnt id (u.Procs.getD i.k En.dflt).Fds (u.Procs.getD i.k En.dflt).Fds.length := rfl
 refine go [.R,.b,.Z] (k := ?_)
 refine AW.seq ?_
 refine cd (fun c1 => ?_) fun c1 => ?_
 ·try simp only [cnd] at c1
  refine jd (AW.seq (AW.block (sr ?_)))
  refine go [.i,.N,.G,.A,.N,.s,.Z,.R,.f,.N,.l,.h,.m,.Z] (k := ?_)
  refine AW.block ?_
  refine AW.loopW (fun j : KInv (u.Procs.getD i.k En.dflt).Fds.length => [.sl 20 (.v (iv j.k)), .sl 13 (.v (iv i.k)), .sl 5 (.v (iv (refsN u id i.k + fdCnt id (u.Procs.getD i.k En.dflt).Fds j.k : Nat))), .sl 18 (.h (base + 1) [(10, i.k, 7)]), .sl 19 (.v (iv (u.Procs.getD i.k En.dflt).Fds.length)), .sl 1 (.v (iv id)), .sl 11 (.h (base + 1) []), .sl 12 (.v (iv u.Procs.length)), .rt base .ro (tr u.Progs), .rt (base + 1) .ro (tr u.Procs), .rt (base + 2) .ro (tr u.Opens), .rt (base + 3) .ro (tr u.Pipes), .rt (base + 4) .ro (tr u.Files), .rt (base + 5) .ro (tr u.Ready), .rt (base + 6) .ro (tr u.Out)]) (fun j => (u.Procs.getD i.k En.dflt).Fds.length - j.k) ⟨0, Nat.zero_le _⟩ (ws) ?_
  intro j
  have hlej := j.le
  have hm2 : j.k < (u.Procs.getD i.k En.dflt).Fds.length → fdCnt id (u.Procs.getD i.k En.dflt).Fds (j.k + 1) ≤ fdCnt id (u.Procs.getD i.k En.dflt).Fds (u.Procs.getD i.k En.dflt).Fds.length := fun h => cumN_mono (by omega)
  have hs2 : fdCnt id (u.Procs.getD i.k En.dflt).Fds (j.k + 1) = fdCnt id (u.Procs.getD i.k En.dflt).Fds j.k + (if (u.Procs.getD i.k En.dflt).Fds.getD j.k En.dflt = id then 1 else 0) := rfl
  refine AW.len (base + 1) [(10, i.k, 7)] rfl (by refine ⟨rfl, ?_, by decide, trivial⟩; show i.k < u.Procs.length; omega) rfl (fun hl2 => ?_)
  refine go [.R,.b,.Z] (k := ?_)
  refine AW.seq ?_
  refine cd (fun c2 => ?_) fun c2 => ?_
  ·try simp only [cnd] at c2
   refine jd (AW.seq (AW.block (sr ?_)))
   refine go [.i,.N,.l,.a,.Z,.R,.m,.N,.m,.b,.Z] (k := ?_)
   refine cd (fun c3 => ?_) fun c3 => ?_
   ·try simp only [cnd] at c3
    refine go [.R1,.m,.N,.b,.a,.Z,.R1,.b,.N,.m,.Z] (k := ?_)
    refine ⟨⟨j.k + 1, by omega⟩, Weak.sim ⟨st1, rfl, by simp only [slotL, reduceIte, Nat.reduceEqDiff]; congr 2; rw [hs2]; grind only, rfl, rfl, rfl, rfl, rfl, Rf rfl, Rf rfl, Rf rfl, Rf rfl, Rf rfl, Rf rfl, Rf rfl, trivial⟩ rfl rfl, ?_⟩
    show (u.Procs.getD i.k En.dflt).Fds.length - (j.k + 1) < (u.Procs.getD i.k En.dflt).Fds.length - j.k
    omega
   try simp only [cnd] at c3
   refine go [.J,.R1,.b,.m,.Z] (k := ?_)
   refine ⟨⟨j.k + 1, by omega⟩, Weak.sim ⟨st1, rfl, by simp only [slotL, reduceIte, Nat.reduceEqDiff]; congr 2; rw [hs2]; grind only, rfl, rfl, rfl, rfl, rfl, Rf rfl, Rf rfl, Rf rfl, Rf rfl, Rf rfl, Rf rfl, Rf rfl, trivial⟩ rfl rfl, ?_⟩
   show (u.Procs.getD i.k En.dflt).Fds.length - (j.k + 1) < (u.Procs.getD i.k En.dflt).Fds.length - j.k
   omega
  try simp only [cnd] at c2
  refine AW.exit ?_
  dsimp only [thenQ, blockQ, reduceIte]
  refine go [.R1,.b,.N,.m,.Z] (k := ?_)
  refine ⟨⟨i.k + 1, by omega⟩, Weak.sim ⟨st1, by simp only [slotL, reduceIte, Nat.reduceEqDiff]; congr 2; rw [hs1, ← (congrArg (fdCnt id (u.Procs.getD i.k En.dflt).Fds) (show j.k = (u.Procs.getD i.k En.dflt).Fds.length by omega))], rfl, rfl, rfl, Rf rfl, Rf rfl, Rf rfl, Rf rfl, Rf rfl, Rf rfl, Rf rfl, trivial⟩ rfl rfl, ?_⟩
  show u.Procs.length - (i.k + 1) < u.Procs.length - i.k
  omega
 try simp only [cnd] at c1
 refine AW.exit ?_
 dsimp only [thenQ, blockQ, reduceIte]
 refine go [.R,.m,.a,.Z] (k := ?_)
 refine rt1 4 ?_
 rw [show refsN u id i.k = refsOf u id from congrArg (refsN u id) (show i.k = u.Procs.length by omega)]
 rfl
theorem wordsI_con (u : DUnix) (hb : unixB u) : Con Tryz.prog 159 [.g [.v (iv u.Next), .v (iv u.Tick), .h base [], .h (base + 1) [], .h (base + 2) [], .h (base + 3) [], .h (base + 4) [], .h (base + 5) [], .h (base + 6) []]] [.rt base .ro (tr u.Progs), .rt (base + 1) .ro (tr u.Procs), .rt (base + 2) .ro (tr u.Opens), .rt (base + 3) .ro (tr u.Pipes), .rt (base + 4) .ro (tr u.Files), .rt (base + 5) .ro (tr u.Ready), .rt (base + 6) .ro (tr u.Out)] (fun y _ => y = .v (iv (memN u.Procs u.Procs.length : Nat))) := by
 refine ob Tryz.func159 Tryz.ntmps159 ?_
 refine AW.len (base + 1) [] rfl (by simp [Okp]) rfl (fun hl => ?_)
 have hmb := hb.mem
 refine go [.R,.B,.N,.a,.Z,.R,.a,.Z,.R2,.f,.N,.l,.h,.m,.Z] (k := ?_)
 refine AW.block ?_
 refine AW.loopW (fun i : KInv u.Procs.length => [.sl 9 (.v (iv i.k)), .sl 3 (.v (iv (memN u.Procs i.k : Nat))), .sl 7 (.h (base + 1) []), .sl 8 (.v (iv u.Procs.length)), .rt base .ro (tr u.Progs), .rt (base + 1) .ro (tr u.Procs), .rt (base + 2) .ro (tr u.Opens), .rt (base + 3) .ro (tr u.Pipes), .rt (base + 4) .ro (tr u.Files), .rt (base + 5) .ro (tr u.Ready), .rt (base + 6) .ro (tr u.Out)]) (fun i => u.Procs.length - i.k) ⟨0, Nat.zero_le _⟩ (ws) ?_
 intro i
 have hle := i.le
 have hm1 : i.k < u.Procs.length → memN u.Procs (i.k + 1) ≤ memN u.Procs u.Procs.length := fun h => cumN_mono (by omega)
 have hs1 : memN u.Procs (i.k + 1) = memN u.Procs i.k + (u.Procs.getD i.k En.dflt).Mem.length := rfl
 refine go [.R,.b,.Z] (k := ?_)
 refine AW.seq ?_
 refine cd (fun c1 => ?_) fun c1 => ?_
 ·try simp only [cnd] at c1
  refine jd (AW.seq (AW.block (sr ?_)))
  refine go [.i,.N,.G,.A,.N,.s,.Z,.R1,.m,.N,.f,.l,.h,.N,.b,.a,.Z,.R1,.b,.N,.m,.Z] (k := ?_)
  refine ⟨⟨i.k + 1, by omega⟩, Weak.sim ⟨st1, by simp only [slotL, reduceIte, Nat.reduceEqDiff]; congr 2; first | done | (rw [hs1]; grind only), rfl, rfl, Rf rfl, Rf rfl, Rf rfl, Rf rfl, Rf rfl, Rf rfl, Rf rfl, trivial⟩ rfl rfl, ?_⟩
  show u.Procs.length - (i.k + 1) < u.Procs.length - i.k
  omega
 try simp only [cnd] at c1
 refine AW.exit ?_
 dsimp only [thenQ, blockQ, reduceIte]
 refine go [.R,.m,.a,.Z] (k := ?_)
 refine rt1 2 ?_
 rw [show i.k = u.Procs.length by omega]
 rfl
theorem openOk_con (u : DUnix) (o : DOpen) (hb : unixB u) : Con Tryz.prog 158 [.g [.v (iv u.Next), .v (iv u.Tick), .h base [], .h (base + 1) [], .h (base + 2) [], .h (base + 3) [], .h (base + 4) [], .h (base + 5) [], .h (base + 6) []], .g [.v (iv o.Id), .v (iv o.Kind), .v (iv o.Target), .v (iv o.Off), .v (iv o.Refs)]] [.rt base .ro (tr u.Progs), .rt (base + 1) .ro (tr u.Procs), .rt (base + 2) .ro (tr u.Opens), .rt (base + 3) .ro (tr u.Pipes), .rt (base + 4) .ro (tr u.Files), .rt (base + 5) .ro (tr u.Ready), .rt (base + 6) .ro (tr u.Out)] (fun y _ => y = .v (.bool (openOk u o))) := by
 refine ob Tryz.func158 Tryz.ntmps158 ?_
 have hfb : fileAt u o.Target < u.Files.length := (ixOf_bd _ _).2
 refine go [.R,.B,.N,.B,.N,.a,.Z] (k := ?_)
 refine AW.seq (AW.seq ?_)
 refine go [.D [0, 1, 3, 4, 5, 6, 7, 8, 9, 10, 11, 12, 13, 14, 16, 17],.t 0,.f,.t 1,.l,.N] (k := ?_)
 refine a1 2 [] [1, 0] rfl rfl (Stp.callV rfl (by decide) Tryz.call152 rfl rfl (inU_con _ _ _)) ?_
 refine go [.N,.t 3,.n,.t 4,.m] (k := ?_)
 refine AWA.split 10 rfl (fun g1 => ?_) (fun g1 => ?_)
 ·refine go [.t 5,.x,.N,.t 6,.x,.t 7,.x] (k := ?_)
  refine tk 8 rfl (Qt.pickT rfl g1) ?_
  refine go [.N,.t 9,.m] (k := ?_)
  refine AWA.split 15 rfl (fun g2 => ?_) (fun g2 => ?_)
  ·refine go [.t 10,.x,.t 11,.x,.N,.t 12,.x,.t 13,.x,.t 14,.x,.N,.O 15 [10, 11] [14, 12, 9, 13, 8, 4, 7, 3, 2, 6, 1, 5, 0],.x,.N,.g,.x,.g,.x,.N,.t 16,.x] (k := ?_)
   refine tk 17 rfl (Qt.pickT rfl g2) ?_
   refine go [.Z] (k := ?_)
   refine cd (fun c3 => ?_) fun c3 => ?_
   ·try simp only [cnd] at c3
    refine go [.R,.a,.Z] (k := ?_)
    refine rt1 4 ?_
    refine rb ?_
    simp only [openOk]
    grind only
   try simp only [cnd] at c3
   refine jd (sr2 ?_)
   refine go [.f,.N,.l,.Z] (k := ?_)
   refine AW.block (sr ?_)
   refine go [.b,.a,.Z] (k := ?_)
   refine cd (fun c4 => ?_) fun c4 => ?_
   ·try simp only [cnd] at c4
    refine go [.R,.f,.N,.l,.b,.m,.N] (k := ?_)
    apply AWL.cut 3
    ·intro Kg5
     refine AWL.split 31 rfl (fun g5 => ?_) (fun g5 => ?_)
     ·refine go [.f,.l,.b,.N] (k := ?_)
      exact wjT 34 [32, 33, 34] (ifT g5 _ undef) Kg5
     ·refine go [.x,.x,.x] (k := ?_)
      exact wjF 34 [32, 33, 34] (ifF g5 undef _) Kg5
    refine qq (Qt.pickAnd rfl rfl rfl) ?_
    refine go [.a,.Z] (k := ?_)
    refine rt1 4 ?_
    refine rb ?_
    simp only [openOk]
    grind only
   try simp only [cnd] at c4
   refine go [.R,.b,.N,.a,.Z] (k := ?_)
   refine cd (fun c6 => ?_) fun c6 => ?_
   ·try simp only [cnd] at c6
    refine go [.R,.G,.f,.N,.l] (k := ?_)
    refine cv Tryz.call269 rfl rfl (fileAtI_con u _) ?_
    refine go [.N,.a,.Z] (k := ?_)
    refine AW.seq ?_
    refine go [.D [0, 1, 2, 3, 4, 5, 6, 7, 8, 9, 10, 11, 13, 14],.t 0,.m,.t 1,.b,.N,.t 2,.m] (k := ?_)
    refine AWA.split 44 rfl (fun g7 => ?_) (fun g7 => ?_)
    ·refine go [.t 3,.f,.t 4,.l,.N,.t 5,.f,.t 6,.l,.t 7,.m,.N,.t 8,.i,.t 9,.f,.t 10,.l,.N,.t 11,.h] (k := ?_)
     refine a1 12 [] [11, 4, 2, 10, 3, 1, 9, 0, 8, 7, 6, 5] rfl g7 (Stp.callV rfl (by decide) Tryz.call152 rfl rfl (inU_con _ _ _)) ?_
     refine go [.N] (k := ?_)
     refine tk 13 rfl (Qt.pickT rfl g7) ?_
     refine go [.t 14,.a,.Z] (k := ?_)
     refine rt1 4 ?_
     refine rb ?_
     simp only [openOk]
     grind only
    refine go [.t 3,.x,.N,.t 4,.x,.t 5,.x,.t 6,.x,.N,.t 7,.x,.t 8,.x,.t 9,.x,.N,.t 10,.x,.t 11,.x,.O 12 [] [11, 4, 2, 10, 3, 1, 9, 0, 8, 7, 6, 5],.x,.N] (k := ?_)
    refine tk 13 rfl (Qt.pickF rfl g7) ?_
    refine go [.t 14,.a,.Z] (k := ?_)
    refine rt1 4 ?_
    refine rb ?_
    simp only [openOk]
    grind only
   try simp only [cnd] at c6
   refine go [.R2,.b,.N,.a,.Z] (k := ?_)
   refine cd (fun c8 => ?_) fun c8 => ?_
   ·have k8 := c8
    try simp only [cnd] at c8
    refine go [.J] (k := ?_)
    refine AW.condT rfl k8 ?_
    refine go [.R,.G,.f,.N,.l] (k := ?_)
    refine cv Tryz.call270 rfl rfl (pipeAtI_con u _) ?_
    refine go [.N,.b,.m] (k := ?_)
    apply AWL.cut 3
    ·intro Kg9
     refine AWL.split 64 rfl (fun g9 => ?_) (fun g9 => ?_)
     ·refine go [.f,.N,.l,.b] (k := ?_)
      exact wjT 67 [65, 66, 67] (ifT g9 _ undef) Kg9
     ·refine go [.x,.x,.x] (k := ?_)
      exact wjF 67 [65, 66, 67] (ifF g9 undef _) Kg9
    refine qq (Qt.pickAnd rfl rfl rfl) ?_
    refine go [.N,.a,.Z] (k := ?_)
    refine rt1 4 ?_
    refine rb ?_
    simp only [openOk]
    grind only
   have k8 := c8
   try simp only [cnd] at c8
   refine go [.R1,.b,.a,.Z] (k := ?_)
   refine cd (fun c10 => ?_) fun c10 => ?_
   ·try simp only [cnd] at c10
    refine go [.R,.G,.N,.f,.l] (k := ?_)
    refine cv Tryz.call270 rfl rfl (pipeAtI_con u _) ?_
    refine go [.N,.b,.m] (k := ?_)
    apply AWL.cut 3
    ·intro Kg11
     refine AWL.split 64 rfl (fun g11 => ?_) (fun g11 => ?_)
     ·refine go [.f,.N,.l,.b] (k := ?_)
      exact wjT 67 [65, 66, 67] (ifT g11 _ undef) Kg11
     ·refine go [.x,.x,.x] (k := ?_)
      exact wjF 67 [65, 66, 67] (ifF g11 undef _) Kg11
    refine qq (Qt.pickAnd rfl rfl rfl) ?_
    refine go [.N,.a,.Z] (k := ?_)
    refine rt1 4 ?_
    refine rb ?_
    simp only [openOk]
    grind only
   try simp only [cnd] at c10
   refine go [.J,.R,.a,.Z] (k := ?_)
   refine rt1 4 ?_
   refine rb ?_
   simp only [openOk]
   grind only
  refine go [.t 10,.f,.N,.t 11,.l,.t 12,.G,.t 13,.f,.N,.t 14,.l] (k := ?_)
  refine a1 15 [10, 11] [14, 12, 9, 13, 8, 4, 7, 3, 2, 6, 1, 5, 0] rfl (nF g2) (Stp.callV rfl (by decide) Tryz.call268 rfl rfl (refsOfI_con u _ hb)) ?_
  refine go [.N,.g,.f,.g,.l,.N,.t 16,.b] (k := ?_)
  refine tk 17 rfl (Qt.pickF rfl g2) ?_
  refine go [.Z] (k := ?_)
  refine cd (fun c12 => ?_) fun c12 => ?_
  ·try simp only [cnd] at c12
   refine go [.R,.a,.Z] (k := ?_)
   refine rt1 4 ?_
   refine rb ?_
   simp only [openOk]
   grind only
  try simp only [cnd] at c12
  refine jd (sr2 ?_)
  refine go [.f,.N,.l,.Z] (k := ?_)
  refine AW.block (sr ?_)
  refine go [.b,.a,.Z] (k := ?_)
  refine cd (fun c13 => ?_) fun c13 => ?_
  ·try simp only [cnd] at c13
   refine go [.R,.f,.N,.l,.b,.m,.N] (k := ?_)
   apply AWL.cut 3
   ·intro Kg14
    refine AWL.split 31 rfl (fun g14 => ?_) (fun g14 => ?_)
    ·refine go [.f,.l,.b,.N] (k := ?_)
     exact wjT 34 [32, 33, 34] (ifT g14 _ undef) Kg14
    ·refine go [.x,.x,.x] (k := ?_)
     exact wjF 34 [32, 33, 34] (ifF g14 undef _) Kg14
   refine qq (Qt.pickAnd rfl rfl rfl) ?_
   refine go [.a,.Z] (k := ?_)
   refine rt1 4 ?_
   refine rb ?_
   simp only [openOk]
   grind only
  try simp only [cnd] at c13
  refine go [.R,.b,.N,.a,.Z] (k := ?_)
  refine cd (fun c15 => ?_) fun c15 => ?_
  ·try simp only [cnd] at c15
   refine go [.R,.G,.f,.N,.l] (k := ?_)
   refine cv Tryz.call269 rfl rfl (fileAtI_con u _) ?_
   refine go [.N,.a,.Z] (k := ?_)
   refine AW.seq ?_
   refine go [.D [0, 1, 2, 3, 4, 5, 6, 7, 8, 9, 10, 11, 13, 14],.t 0,.m,.t 1,.b,.N,.t 2,.m] (k := ?_)
   refine AWA.split 44 rfl (fun g16 => ?_) (fun g16 => ?_)
   ·refine go [.t 3,.f,.t 4,.l,.N,.t 5,.f,.t 6,.l,.t 7,.m,.N,.t 8,.i,.t 9,.f,.t 10,.l,.N,.t 11,.h] (k := ?_)
    refine a1 12 [] [11, 4, 2, 10, 3, 1, 9, 0, 8, 7, 6, 5] rfl g16 (Stp.callV rfl (by decide) Tryz.call152 rfl rfl (inU_con _ _ _)) ?_
    refine go [.N] (k := ?_)
    refine tk 13 rfl (Qt.pickT rfl g16) ?_
    refine go [.t 14,.a,.Z] (k := ?_)
    refine rt1 4 ?_
    refine rb ?_
    simp only [openOk]
    grind only
   refine go [.t 3,.x,.N,.t 4,.x,.t 5,.x,.t 6,.x,.N,.t 7,.x,.t 8,.x,.t 9,.x,.N,.t 10,.x,.t 11,.x,.O 12 [] [11, 4, 2, 10, 3, 1, 9, 0, 8, 7, 6, 5],.x,.N] (k := ?_)
   refine tk 13 rfl (Qt.pickF rfl g16) ?_
   refine go [.t 14,.a,.Z] (k := ?_)
   refine rt1 4 ?_
   refine rb ?_
   simp only [openOk]
   grind only
  try simp only [cnd] at c15
  refine go [.R2,.b,.N,.a,.Z] (k := ?_)
  refine cd (fun c17 => ?_) fun c17 => ?_
  ·have k17 := c17
   try simp only [cnd] at c17
   refine go [.J] (k := ?_)
   refine AW.condT rfl k17 ?_
   refine go [.R,.G,.f,.N,.l] (k := ?_)
   refine cv Tryz.call270 rfl rfl (pipeAtI_con u _) ?_
   refine go [.N,.b,.m] (k := ?_)
   apply AWL.cut 3
   ·intro Kg18
    refine AWL.split 64 rfl (fun g18 => ?_) (fun g18 => ?_)
    ·refine go [.f,.N,.l,.b] (k := ?_)
     exact wjT 67 [65, 66, 67] (ifT g18 _ undef) Kg18
    ·refine go [.x,.x,.x] (k := ?_)
     exact wjF 67 [65, 66, 67] (ifF g18 undef _) Kg18
   refine qq (Qt.pickAnd rfl rfl rfl) ?_
   refine go [.N,.a,.Z] (k := ?_)
   refine rt1 4 ?_
   refine rb ?_
   simp only [openOk]
   grind only
  have k17 := c17
  try simp only [cnd] at c17
  refine go [.R1,.b,.a,.Z] (k := ?_)
  refine cd (fun c19 => ?_) fun c19 => ?_
  ·try simp only [cnd] at c19
   refine go [.R,.G,.N,.f,.l] (k := ?_)
   refine cv Tryz.call270 rfl rfl (pipeAtI_con u _) ?_
   refine go [.N,.b,.m] (k := ?_)
   apply AWL.cut 3
   ·intro Kg20
    refine AWL.split 64 rfl (fun g20 => ?_) (fun g20 => ?_)
    ·refine go [.f,.N,.l,.b] (k := ?_)
     exact wjT 67 [65, 66, 67] (ifT g20 _ undef) Kg20
    ·refine go [.x,.x,.x] (k := ?_)
     exact wjF 67 [65, 66, 67] (ifF g20 undef _) Kg20
   refine qq (Qt.pickAnd rfl rfl rfl) ?_
   refine go [.N,.a,.Z] (k := ?_)
   refine rt1 4 ?_
   refine rb ?_
   simp only [openOk]
   grind only
  try simp only [cnd] at c19
  refine go [.J,.R,.a,.Z] (k := ?_)
  refine rt1 4 ?_
  refine rb ?_
  simp only [openOk]
  grind only
 refine go [.t 5,.f,.N,.t 6,.l,.t 7,.b] (k := ?_)
 refine tk 8 rfl (Qt.pickF rfl g1) ?_
 refine go [.N,.t 9,.m] (k := ?_)
 refine AWA.split 15 rfl (fun g21 => ?_) (fun g21 => ?_)
 ·refine go [.t 10,.x,.t 11,.x,.N,.t 12,.x,.t 13,.x,.t 14,.x,.N,.O 15 [10, 11] [14, 12, 9, 13, 8, 4, 7, 3, 2, 6, 1, 5, 0],.x,.N,.g,.x,.g,.x,.N,.t 16,.x] (k := ?_)
  refine tk 17 rfl (Qt.pickT rfl g21) ?_
  refine go [.Z] (k := ?_)
  refine cd (fun c22 => ?_) fun c22 => ?_
  ·try simp only [cnd] at c22
   refine go [.R,.a,.Z] (k := ?_)
   refine rt1 4 ?_
   refine rb ?_
   simp only [openOk]
   grind only
  try simp only [cnd] at c22
  refine jd (sr2 ?_)
  refine go [.f,.N,.l,.Z] (k := ?_)
  refine AW.block (sr ?_)
  refine go [.b,.a,.Z] (k := ?_)
  refine cd (fun c23 => ?_) fun c23 => ?_
  ·try simp only [cnd] at c23
   refine go [.R,.f,.N,.l,.b,.m,.N] (k := ?_)
   apply AWL.cut 3
   ·intro Kg24
    refine AWL.split 31 rfl (fun g24 => ?_) (fun g24 => ?_)
    ·refine go [.f,.l,.b,.N] (k := ?_)
     exact wjT 34 [32, 33, 34] (ifT g24 _ undef) Kg24
    ·refine go [.x,.x,.x] (k := ?_)
     exact wjF 34 [32, 33, 34] (ifF g24 undef _) Kg24
   refine qq (Qt.pickAnd rfl rfl rfl) ?_
   refine go [.a,.Z] (k := ?_)
   refine rt1 4 ?_
   refine rb ?_
   simp only [openOk]
   grind only
  try simp only [cnd] at c23
  refine go [.R,.b,.N,.a,.Z] (k := ?_)
  refine cd (fun c25 => ?_) fun c25 => ?_
  ·try simp only [cnd] at c25
   refine go [.R,.G,.f,.N,.l] (k := ?_)
   refine cv Tryz.call269 rfl rfl (fileAtI_con u _) ?_
   refine go [.N,.a,.Z] (k := ?_)
   refine AW.seq ?_
   refine go [.D [0, 1, 2, 3, 4, 5, 6, 7, 8, 9, 10, 11, 13, 14],.t 0,.m,.t 1,.b,.N,.t 2,.m] (k := ?_)
   refine AWA.split 44 rfl (fun g26 => ?_) (fun g26 => ?_)
   ·refine go [.t 3,.f,.t 4,.l,.N,.t 5,.f,.t 6,.l,.t 7,.m,.N,.t 8,.i,.t 9,.f,.t 10,.l,.N,.t 11,.h] (k := ?_)
    refine a1 12 [] [11, 4, 2, 10, 3, 1, 9, 0, 8, 7, 6, 5] rfl g26 (Stp.callV rfl (by decide) Tryz.call152 rfl rfl (inU_con _ _ _)) ?_
    refine go [.N] (k := ?_)
    refine tk 13 rfl (Qt.pickT rfl g26) ?_
    refine go [.t 14,.a,.Z] (k := ?_)
    refine rt1 4 ?_
    refine rb ?_
    simp only [openOk]
    grind only
   refine go [.t 3,.x,.N,.t 4,.x,.t 5,.x,.t 6,.x,.N,.t 7,.x,.t 8,.x,.t 9,.x,.N,.t 10,.x,.t 11,.x,.O 12 [] [11, 4, 2, 10, 3, 1, 9, 0, 8, 7, 6, 5],.x,.N] (k := ?_)
   refine tk 13 rfl (Qt.pickF rfl g26) ?_
   refine go [.t 14,.a,.Z] (k := ?_)
   refine rt1 4 ?_
   refine rb ?_
   simp only [openOk]
   grind only
  try simp only [cnd] at c25
  refine go [.R2,.b,.N,.a,.Z] (k := ?_)
  refine cd (fun c27 => ?_) fun c27 => ?_
  ·have k27 := c27
   try simp only [cnd] at c27
   refine go [.J] (k := ?_)
   refine AW.condT rfl k27 ?_
   refine go [.R,.G,.f,.N,.l] (k := ?_)
   refine cv Tryz.call270 rfl rfl (pipeAtI_con u _) ?_
   refine go [.N,.b,.m] (k := ?_)
   apply AWL.cut 3
   ·intro Kg28
    refine AWL.split 64 rfl (fun g28 => ?_) (fun g28 => ?_)
    ·refine go [.f,.N,.l,.b] (k := ?_)
     exact wjT 67 [65, 66, 67] (ifT g28 _ undef) Kg28
    ·refine go [.x,.x,.x] (k := ?_)
     exact wjF 67 [65, 66, 67] (ifF g28 undef _) Kg28
   refine qq (Qt.pickAnd rfl rfl rfl) ?_
   refine go [.N,.a,.Z] (k := ?_)
   refine rt1 4 ?_
   refine rb ?_
   simp only [openOk]
   grind only
  have k27 := c27
  try simp only [cnd] at c27
  refine go [.R1,.b,.a,.Z] (k := ?_)
  refine cd (fun c29 => ?_) fun c29 => ?_
  ·try simp only [cnd] at c29
   refine go [.R,.G,.N,.f,.l] (k := ?_)
   refine cv Tryz.call270 rfl rfl (pipeAtI_con u _) ?_
   refine go [.N,.b,.m] (k := ?_)
   apply AWL.cut 3
   ·intro Kg30
    refine AWL.split 64 rfl (fun g30 => ?_) (fun g30 => ?_)
    ·refine go [.f,.N,.l,.b] (k := ?_)
     exact wjT 67 [65, 66, 67] (ifT g30 _ undef) Kg30
    ·refine go [.x,.x,.x] (k := ?_)
     exact wjF 67 [65, 66, 67] (ifF g30 undef _) Kg30
   refine qq (Qt.pickAnd rfl rfl rfl) ?_
   refine go [.N,.a,.Z] (k := ?_)
   refine rt1 4 ?_
   refine rb ?_
   simp only [openOk]
   grind only
  try simp only [cnd] at c29
  refine go [.J,.R,.a,.Z] (k := ?_)
  refine rt1 4 ?_
  refine rb ?_
  simp only [openOk]
  grind only
 refine go [.t 10,.f,.N,.t 11,.l,.t 12,.G,.t 13,.f,.N,.t 14,.l] (k := ?_)
 refine a1 15 [10, 11] [14, 12, 9, 13, 8, 4, 7, 3, 2, 6, 1, 5, 0] rfl (nF g21) (Stp.callV rfl (by decide) Tryz.call268 rfl rfl (refsOfI_con u _ hb)) ?_
 refine go [.N,.g,.f,.g,.l,.N,.t 16,.b] (k := ?_)
 refine tk 17 rfl (Qt.pickF rfl g21) ?_
 refine go [.Z] (k := ?_)
 refine cd (fun c31 => ?_) fun c31 => ?_
 ·try simp only [cnd] at c31
  refine go [.R,.a,.Z] (k := ?_)
  refine rt1 4 ?_
  refine rb ?_
  simp only [openOk]
  grind only
 try simp only [cnd] at c31
 refine jd (sr2 ?_)
 refine go [.f,.N,.l,.Z] (k := ?_)
 refine AW.block (sr ?_)
 refine go [.b,.a,.Z] (k := ?_)
 refine cd (fun c32 => ?_) fun c32 => ?_
 ·try simp only [cnd] at c32
  refine go [.R,.f,.N,.l,.b,.m,.N] (k := ?_)
  apply AWL.cut 3
  ·intro Kg33
   refine AWL.split 31 rfl (fun g33 => ?_) (fun g33 => ?_)
   ·refine go [.f,.l,.b,.N] (k := ?_)
    exact wjT 34 [32, 33, 34] (ifT g33 _ undef) Kg33
   ·refine go [.x,.x,.x] (k := ?_)
    exact wjF 34 [32, 33, 34] (ifF g33 undef _) Kg33
  refine qq (Qt.pickAnd rfl rfl rfl) ?_
  refine go [.a,.Z] (k := ?_)
  refine rt1 4 ?_
  refine rb ?_
  simp only [openOk]
  grind only
 try simp only [cnd] at c32
 refine go [.R,.b,.N,.a,.Z] (k := ?_)
 refine cd (fun c34 => ?_) fun c34 => ?_
 ·try simp only [cnd] at c34
  refine go [.R,.G,.f,.N,.l] (k := ?_)
  refine cv Tryz.call269 rfl rfl (fileAtI_con u _) ?_
  refine go [.N,.a,.Z] (k := ?_)
  refine AW.seq ?_
  refine go [.D [0, 1, 2, 3, 4, 5, 6, 7, 8, 9, 10, 11, 13, 14],.t 0,.m,.t 1,.b,.N,.t 2,.m] (k := ?_)
  refine AWA.split 44 rfl (fun g35 => ?_) (fun g35 => ?_)
  ·refine go [.t 3,.f,.t 4,.l,.N,.t 5,.f,.t 6,.l,.t 7,.m,.N,.t 8,.i,.t 9,.f,.t 10,.l,.N,.t 11,.h] (k := ?_)
   refine a1 12 [] [11, 4, 2, 10, 3, 1, 9, 0, 8, 7, 6, 5] rfl g35 (Stp.callV rfl (by decide) Tryz.call152 rfl rfl (inU_con _ _ _)) ?_
   refine go [.N] (k := ?_)
   refine tk 13 rfl (Qt.pickT rfl g35) ?_
   refine go [.t 14,.a,.Z] (k := ?_)
   refine rt1 4 ?_
   refine rb ?_
   simp only [openOk]
   grind only
  refine go [.t 3,.x,.N,.t 4,.x,.t 5,.x,.t 6,.x,.N,.t 7,.x,.t 8,.x,.t 9,.x,.N,.t 10,.x,.t 11,.x,.O 12 [] [11, 4, 2, 10, 3, 1, 9, 0, 8, 7, 6, 5],.x,.N] (k := ?_)
  refine tk 13 rfl (Qt.pickF rfl g35) ?_
  refine go [.t 14,.a,.Z] (k := ?_)
  refine rt1 4 ?_
  refine rb ?_
  simp only [openOk]
  grind only
 try simp only [cnd] at c34
 refine go [.R2,.b,.N,.a,.Z] (k := ?_)
 refine cd (fun c36 => ?_) fun c36 => ?_
 ·have k36 := c36
  try simp only [cnd] at c36
  refine go [.J] (k := ?_)
  refine AW.condT rfl k36 ?_
  refine go [.R,.G,.f,.N,.l] (k := ?_)
  refine cv Tryz.call270 rfl rfl (pipeAtI_con u _) ?_
  refine go [.N,.b,.m] (k := ?_)
  apply AWL.cut 3
  ·intro Kg37
   refine AWL.split 64 rfl (fun g37 => ?_) (fun g37 => ?_)
   ·refine go [.f,.N,.l,.b] (k := ?_)
    exact wjT 67 [65, 66, 67] (ifT g37 _ undef) Kg37
   ·refine go [.x,.x,.x] (k := ?_)
    exact wjF 67 [65, 66, 67] (ifF g37 undef _) Kg37
  refine qq (Qt.pickAnd rfl rfl rfl) ?_
  refine go [.N,.a,.Z] (k := ?_)
  refine rt1 4 ?_
  refine rb ?_
  simp only [openOk]
  grind only
 have k36 := c36
 try simp only [cnd] at c36
 refine go [.R1,.b,.a,.Z] (k := ?_)
 refine cd (fun c38 => ?_) fun c38 => ?_
 ·try simp only [cnd] at c38
  refine go [.R,.G,.N,.f,.l] (k := ?_)
  refine cv Tryz.call270 rfl rfl (pipeAtI_con u _) ?_
  refine go [.N,.b,.m] (k := ?_)
  apply AWL.cut 3
  ·intro Kg39
   refine AWL.split 64 rfl (fun g39 => ?_) (fun g39 => ?_)
   ·refine go [.f,.N,.l,.b] (k := ?_)
    exact wjT 67 [65, 66, 67] (ifT g39 _ undef) Kg39
   ·refine go [.x,.x,.x] (k := ?_)
    exact wjF 67 [65, 66, 67] (ifF g39 undef _) Kg39
  refine qq (Qt.pickAnd rfl rfl rfl) ?_
  refine go [.N,.a,.Z] (k := ?_)
  refine rt1 4 ?_
  refine rb ?_
  simp only [openOk]
  grind only
 try simp only [cnd] at c38
 refine go [.J,.R,.a,.Z] (k := ?_)
 refine rt1 4 ?_
 refine rb ?_
 simp only [openOk]
 grind only
theorem filesOkI_con (l : List DFile) : Con Tryz.prog 161 [.h base []] [.rt base .ro (tr l)] (fun y _ => y = .v (.bool (filesOk l))) := by
 refine ob Tryz.func161 Tryz.ntmps161 ?_
 refine AW.len (base) [] rfl (by simp [Okp]) rfl (fun hl => ?_)
 refine go [.R,.a,.Z,.R2,.m,.h,.N,.m,.Z] (k := ?_)
 refine AW.block ?_
 refine AW.loopW (fun i : AIx (fileU l) l.length => [.sl 7 (.v (iv i.k)), .sl 0 (.h base []), .sl 5 (.h base []), .sl 6 (.v (iv l.length)), .rt base .ro (tr l)]) (fun i => l.length - i.k) ⟨0, Nat.zero_le _, fun _ h => absurd h (Nat.not_lt_zero _)⟩ (ws) ?_
 intro i
 have hle := i.le
 have hTi : ((i.k : Int) - 1).toNat = i.k - 1 := by omega
 refine go [.R,.b,.Z] (k := ?_)
 refine AW.seq ?_
 refine cd (fun c1 => ?_) fun c1 => ?_
 ·try simp only [cnd] at c1
  refine jd (AW.seq (AW.block (sr ?_)))
  refine go [.m,.N,.i,.G,.A,.N,.a,.s,.Z] (k := ?_)
  refine AW.seq ?_
  refine go [.D [0, 1, 3, 4, 5, 6, 7, 8, 9, 10, 11, 12, 13, 14, 15, 16, 17, 18, 19, 20, 21, 22, 23, 24, 25, 26, 27, 29, 30],.t 0,.f,.N,.t 1,.l] (k := ?_)
  refine a1 2 [] [1, 0] rfl rfl (Stp.callV rfl (by decide) Tryz.call152 rfl rfl (inU_con _ _ _)) ?_
  refine go [.N,.t 3,.n,.t 4,.m] (k := ?_)
  refine AWA.split 16 rfl (fun g2 => ?_) (fun g2 => ?_)
  ·refine go [.t 5,.x,.N,.t 6,.x,.t 7,.x,.t 8,.x,.N,.t 9,.x,.t 10,.x,.t 11,.x,.N,.t 12,.x,.t 13,.x,.t 14,.x,.N,.t 15,.x,.t 16,.x,.t 17,.x,.N] (k := ?_)
   refine tk 18 rfl (Qt.pickT rfl g2) ?_
   refine go [.t 19,.m] (k := ?_)
   refine AWA.split 31 rfl (fun g3 => ?_) (fun g3 => ?_)
   ·refine go [.t 20,.x,.N,.t 21,.x,.t 22,.x,.t 23,.x,.N] (k := ?_)
    refine tk 24 rfl (Qt.pickT rfl g3) ?_
    refine go [.t 25,.m] (k := ?_)
    refine AWA.split 37 rfl (fun g4 => ?_) (fun g4 => ?_)
    ·refine go [.t 26,.x,.N,.t 27,.x,.O 28 [] [27, 25, 26, 24, 19, 23, 18, 7, 22, 17, 4, 6, 21, 16, 3, 2, 5, 20, 15, 13, 1, 14, 12, 0, 11, 10, 8, 9],.x,.N,.t 29,.x] (k := ?_)
     refine tk 30 rfl (Qt.pickT rfl g4) ?_
     refine go [.Z] (k := ?_)
     refine cd (fun c5 => ?_) fun c5 => ?_
     ·try simp only [cnd] at c5
      have hS := i.stop (by omega) (show (fileU l) i.k = false by simp only [fileU, rises, fileOk]; grind only)
      refine go [.R,.a,.Z] (k := ?_)
      refine rt1 2 ?_
      refine rb ?_
      simp only [filesOk_eq]
      grind only
     try simp only [cnd] at c5
     refine go [.J,.R1,.b,.N,.m,.Z] (k := ?_)
     refine ⟨⟨i.k + 1, by omega, i.next (show (fileU l) i.k = true by simp only [fileU, rises, fileOk]; grind only)⟩, ws, ?_⟩
     show l.length - (i.k + 1) < l.length - i.k
     omega
    refine go [.t 26,.f,.t 27,.l,.N] (k := ?_)
    refine a1 28 [] [27, 25, 26, 24, 19, 23, 18, 7, 22, 17, 4, 6, 21, 16, 3, 2, 5, 20, 15, 13, 1, 14, 12, 0, 11, 10, 8, 9] rfl (nF g4) (Stp.callV rfl (by decide) Tryz.call153 rfl rfl (wordsOk_con _)) ?_
    refine go [.N,.t 29,.n] (k := ?_)
    refine tk 30 rfl (Qt.pickF rfl g4) ?_
    refine go [.Z] (k := ?_)
    refine cd (fun c6 => ?_) fun c6 => ?_
    ·try simp only [cnd] at c6
     have hS := i.stop (by omega) (show (fileU l) i.k = false by simp only [fileU, rises, fileOk]; grind only)
     refine go [.R,.a,.Z] (k := ?_)
     refine rt1 2 ?_
     refine rb ?_
     simp only [filesOk_eq]
     grind only
    try simp only [cnd] at c6
    refine go [.J,.R1,.b,.N,.m,.Z] (k := ?_)
    refine ⟨⟨i.k + 1, by omega, i.next (show (fileU l) i.k = true by simp only [fileU, rises, fileOk]; grind only)⟩, ws, ?_⟩
    show l.length - (i.k + 1) < l.length - i.k
    omega
   refine go [.t 20,.f,.t 21,.l,.N,.t 22,.h,.t 23,.b] (k := ?_)
   refine tk 24 rfl (Qt.pickF rfl g3) ?_
   refine go [.N,.t 25,.m] (k := ?_)
   refine AWA.split 37 rfl (fun g7 => ?_) (fun g7 => ?_)
   ·refine go [.t 26,.x,.t 27,.x,.N,.O 28 [] [27, 25, 26, 24, 19, 23, 18, 7, 22, 17, 4, 6, 21, 16, 3, 2, 5, 20, 15, 13, 1, 14, 12, 0, 11, 10, 8, 9],.x,.N,.t 29,.x] (k := ?_)
    refine tk 30 rfl (Qt.pickT rfl g7) ?_
    refine go [.Z] (k := ?_)
    refine cd (fun c8 => ?_) fun c8 => ?_
    ·try simp only [cnd] at c8
     have hS := i.stop (by omega) (show (fileU l) i.k = false by simp only [fileU, rises, fileOk]; grind only)
     refine go [.R,.a,.Z] (k := ?_)
     refine rt1 2 ?_
     refine rb ?_
     simp only [filesOk_eq]
     grind only
    try simp only [cnd] at c8
    refine go [.J,.R1,.b,.N,.m,.Z] (k := ?_)
    refine ⟨⟨i.k + 1, by omega, i.next (show (fileU l) i.k = true by simp only [fileU, rises, fileOk]; grind only)⟩, ws, ?_⟩
    show l.length - (i.k + 1) < l.length - i.k
    omega
   refine go [.t 26,.f,.t 27,.l,.N] (k := ?_)
   refine a1 28 [] [27, 25, 26, 24, 19, 23, 18, 7, 22, 17, 4, 6, 21, 16, 3, 2, 5, 20, 15, 13, 1, 14, 12, 0, 11, 10, 8, 9] rfl (nF g7) (Stp.callV rfl (by decide) Tryz.call153 rfl rfl (wordsOk_con _)) ?_
   refine go [.N,.t 29,.n] (k := ?_)
   refine tk 30 rfl (Qt.pickF rfl g7) ?_
   refine go [.Z] (k := ?_)
   refine cd (fun c9 => ?_) fun c9 => ?_
   ·try simp only [cnd] at c9
    have hS := i.stop (by omega) (show (fileU l) i.k = false by simp only [fileU, rises, fileOk]; grind only)
    refine go [.R,.a,.Z] (k := ?_)
    refine rt1 2 ?_
    refine rb ?_
    simp only [filesOk_eq]
    grind only
   try simp only [cnd] at c9
   refine go [.J,.R1,.b,.N,.m,.Z] (k := ?_)
   refine ⟨⟨i.k + 1, by omega, i.next (show (fileU l) i.k = true by simp only [fileU, rises, fileOk]; grind only)⟩, ws, ?_⟩
   show l.length - (i.k + 1) < l.length - i.k
   omega
  refine go [.t 5,.m,.t 6,.b,.N,.t 7,.m] (k := ?_)
  refine AWA.split 19 rfl (fun g10 => ?_) (fun g10 => ?_)
  ·refine go [.t 8,.m,.t 9,.m,.N,.t 10,.b,.t 11,.i,.t 12,.f,.N,.t 13,.l,.t 14,.f,.t 15,.l,.N,.t 16,.b] (k := ?_)
   refine tg 17 rfl (nF g2) (Qt.pickT rfl g10) ?_
   refine tk 18 rfl (Qt.pickF rfl g2) ?_
   refine go [.N,.t 19,.m] (k := ?_)
   refine AWA.split 31 rfl (fun g11 => ?_) (fun g11 => ?_)
   ·refine go [.t 20,.x,.t 21,.x,.N,.t 22,.x,.t 23,.x] (k := ?_)
    refine tk 24 rfl (Qt.pickT rfl g11) ?_
    refine go [.N,.t 25,.m] (k := ?_)
    refine AWA.split 37 rfl (fun g12 => ?_) (fun g12 => ?_)
    ·refine go [.t 26,.x,.t 27,.x,.N,.O 28 [] [27, 25, 26, 24, 19, 23, 18, 7, 22, 17, 4, 6, 21, 16, 3, 2, 5, 20, 15, 13, 1, 14, 12, 0, 11, 10, 8, 9],.x,.N,.t 29,.x] (k := ?_)
     refine tk 30 rfl (Qt.pickT rfl g12) ?_
     refine go [.Z] (k := ?_)
     refine cd (fun c13 => ?_) fun c13 => ?_
     ·try simp only [cnd] at c13
      have hS := i.stop (by omega) (show (fileU l) i.k = false by simp only [fileU, rises, fileOk]; grind only)
      refine go [.R,.a,.Z] (k := ?_)
      refine rt1 2 ?_
      refine rb ?_
      simp only [filesOk_eq]
      grind only
     try simp only [cnd] at c13
     refine go [.J,.R1,.b,.N,.m,.Z] (k := ?_)
     refine ⟨⟨i.k + 1, by omega, i.next (show (fileU l) i.k = true by simp only [fileU, rises, fileOk]; grind only)⟩, ws, ?_⟩
     show l.length - (i.k + 1) < l.length - i.k
     omega
    refine go [.t 26,.f,.t 27,.l,.N] (k := ?_)
    refine a1 28 [] [27, 25, 26, 24, 19, 23, 18, 7, 22, 17, 4, 6, 21, 16, 3, 2, 5, 20, 15, 13, 1, 14, 12, 0, 11, 10, 8, 9] rfl (nF g12) (Stp.callV rfl (by decide) Tryz.call153 rfl rfl (wordsOk_con _)) ?_
    refine go [.N,.t 29,.n] (k := ?_)
    refine tk 30 rfl (Qt.pickF rfl g12) ?_
    refine go [.Z] (k := ?_)
    refine cd (fun c14 => ?_) fun c14 => ?_
    ·try simp only [cnd] at c14
     have hS := i.stop (by omega) (show (fileU l) i.k = false by simp only [fileU, rises, fileOk]; grind only)
     refine go [.R,.a,.Z] (k := ?_)
     refine rt1 2 ?_
     refine rb ?_
     simp only [filesOk_eq]
     grind only
    try simp only [cnd] at c14
    refine go [.J,.R1,.b,.N,.m,.Z] (k := ?_)
    refine ⟨⟨i.k + 1, by omega, i.next (show (fileU l) i.k = true by simp only [fileU, rises, fileOk]; grind only)⟩, ws, ?_⟩
    show l.length - (i.k + 1) < l.length - i.k
    omega
   refine go [.t 20,.f,.t 21,.l,.N,.t 22,.h,.t 23,.b] (k := ?_)
   refine tk 24 rfl (Qt.pickF rfl g11) ?_
   refine go [.N,.t 25,.m] (k := ?_)
   refine AWA.split 37 rfl (fun g15 => ?_) (fun g15 => ?_)
   ·refine go [.t 26,.x,.t 27,.x,.N,.O 28 [] [27, 25, 26, 24, 19, 23, 18, 7, 22, 17, 4, 6, 21, 16, 3, 2, 5, 20, 15, 13, 1, 14, 12, 0, 11, 10, 8, 9],.x,.N,.t 29,.x] (k := ?_)
    refine tk 30 rfl (Qt.pickT rfl g15) ?_
    refine go [.Z] (k := ?_)
    refine cd (fun c16 => ?_) fun c16 => ?_
    ·try simp only [cnd] at c16
     have hS := i.stop (by omega) (show (fileU l) i.k = false by simp only [fileU, rises, fileOk]; grind only)
     refine go [.R,.a,.Z] (k := ?_)
     refine rt1 2 ?_
     refine rb ?_
     simp only [filesOk_eq]
     grind only
    try simp only [cnd] at c16
    refine go [.J,.R1,.b,.N,.m,.Z] (k := ?_)
    refine ⟨⟨i.k + 1, by omega, i.next (show (fileU l) i.k = true by simp only [fileU, rises, fileOk]; grind only)⟩, ws, ?_⟩
    show l.length - (i.k + 1) < l.length - i.k
    omega
   refine go [.t 26,.f,.t 27,.l,.N] (k := ?_)
   refine a1 28 [] [27, 25, 26, 24, 19, 23, 18, 7, 22, 17, 4, 6, 21, 16, 3, 2, 5, 20, 15, 13, 1, 14, 12, 0, 11, 10, 8, 9] rfl (nF g15) (Stp.callV rfl (by decide) Tryz.call153 rfl rfl (wordsOk_con _)) ?_
   refine go [.N,.t 29,.n] (k := ?_)
   refine tk 30 rfl (Qt.pickF rfl g15) ?_
   refine go [.Z] (k := ?_)
   refine cd (fun c17 => ?_) fun c17 => ?_
   ·try simp only [cnd] at c17
    have hS := i.stop (by omega) (show (fileU l) i.k = false by simp only [fileU, rises, fileOk]; grind only)
    refine go [.R,.a,.Z] (k := ?_)
    refine rt1 2 ?_
    refine rb ?_
    simp only [filesOk_eq]
    grind only
   try simp only [cnd] at c17
   refine go [.J,.R1,.b,.N,.m,.Z] (k := ?_)
   refine ⟨⟨i.k + 1, by omega, i.next (show (fileU l) i.k = true by simp only [fileU, rises, fileOk]; grind only)⟩, ws, ?_⟩
   show l.length - (i.k + 1) < l.length - i.k
   omega
  refine go [.t 8,.x,.t 9,.x,.N,.t 10,.x,.t 11,.x,.t 12,.x,.N,.t 13,.x,.t 14,.x,.t 15,.x,.N,.t 16,.x] (k := ?_)
  refine tg 17 rfl (nF g2) (Qt.pickF rfl g10) ?_
  refine tk 18 rfl (Qt.pickF rfl g2) ?_
  refine go [.N,.t 19,.m] (k := ?_)
  refine AWA.split 31 rfl (fun g18 => ?_) (fun g18 => ?_)
  ·refine go [.t 20,.x,.t 21,.x,.N,.t 22,.x,.t 23,.x] (k := ?_)
   refine tk 24 rfl (Qt.pickT rfl g18) ?_
   refine go [.N,.t 25,.m] (k := ?_)
   refine AWA.split 37 rfl (fun g19 => ?_) (fun g19 => ?_)
   ·refine go [.t 26,.x,.t 27,.x,.N,.O 28 [] [27, 25, 26, 24, 19, 23, 18, 7, 22, 17, 4, 6, 21, 16, 3, 2, 5, 20, 15, 13, 1, 14, 12, 0, 11, 10, 8, 9],.x,.N,.t 29,.x] (k := ?_)
    refine tk 30 rfl (Qt.pickT rfl g19) ?_
    refine go [.Z] (k := ?_)
    refine cd (fun c20 => ?_) fun c20 => ?_
    ·try simp only [cnd] at c20
     have hS := i.stop (by omega) (show (fileU l) i.k = false by simp only [fileU, rises, fileOk]; grind only)
     refine go [.R,.a,.Z] (k := ?_)
     refine rt1 2 ?_
     refine rb ?_
     simp only [filesOk_eq]
     grind only
    try simp only [cnd] at c20
    refine go [.J,.R1,.b,.N,.m,.Z] (k := ?_)
    refine ⟨⟨i.k + 1, by omega, i.next (show (fileU l) i.k = true by simp only [fileU, rises, fileOk]; grind only)⟩, ws, ?_⟩
    show l.length - (i.k + 1) < l.length - i.k
    omega
   refine go [.t 26,.f,.t 27,.l,.N] (k := ?_)
   refine a1 28 [] [27, 25, 26, 24, 19, 23, 18, 7, 22, 17, 4, 6, 21, 16, 3, 2, 5, 20, 15, 13, 1, 14, 12, 0, 11, 10, 8, 9] rfl (nF g19) (Stp.callV rfl (by decide) Tryz.call153 rfl rfl (wordsOk_con _)) ?_
   refine go [.N,.t 29,.n] (k := ?_)
   refine tk 30 rfl (Qt.pickF rfl g19) ?_
   refine go [.Z] (k := ?_)
   refine cd (fun c21 => ?_) fun c21 => ?_
   ·try simp only [cnd] at c21
    have hS := i.stop (by omega) (show (fileU l) i.k = false by simp only [fileU, rises, fileOk]; grind only)
    refine go [.R,.a,.Z] (k := ?_)
    refine rt1 2 ?_
    refine rb ?_
    simp only [filesOk_eq]
    grind only
   try simp only [cnd] at c21
   refine go [.J,.R1,.b,.N,.m,.Z] (k := ?_)
   refine ⟨⟨i.k + 1, by omega, i.next (show (fileU l) i.k = true by simp only [fileU, rises, fileOk]; grind only)⟩, ws, ?_⟩
   show l.length - (i.k + 1) < l.length - i.k
   omega
  refine go [.t 20,.f,.t 21,.l,.N,.t 22,.h,.t 23,.b] (k := ?_)
  refine tk 24 rfl (Qt.pickF rfl g18) ?_
  refine go [.N,.t 25,.m] (k := ?_)
  refine AWA.split 37 rfl (fun g22 => ?_) (fun g22 => ?_)
  ·refine go [.t 26,.x,.t 27,.x,.N,.O 28 [] [27, 25, 26, 24, 19, 23, 18, 7, 22, 17, 4, 6, 21, 16, 3, 2, 5, 20, 15, 13, 1, 14, 12, 0, 11, 10, 8, 9],.x,.N,.t 29,.x] (k := ?_)
   refine tk 30 rfl (Qt.pickT rfl g22) ?_
   refine go [.Z] (k := ?_)
   refine cd (fun c23 => ?_) fun c23 => ?_
   ·try simp only [cnd] at c23
    have hS := i.stop (by omega) (show (fileU l) i.k = false by simp only [fileU, rises, fileOk]; grind only)
    refine go [.R,.a,.Z] (k := ?_)
    refine rt1 2 ?_
    refine rb ?_
    simp only [filesOk_eq]
    grind only
   try simp only [cnd] at c23
   refine go [.J,.R1,.b,.N,.m,.Z] (k := ?_)
   refine ⟨⟨i.k + 1, by omega, i.next (show (fileU l) i.k = true by simp only [fileU, rises, fileOk]; grind only)⟩, ws, ?_⟩
   show l.length - (i.k + 1) < l.length - i.k
   omega
  refine go [.t 26,.f,.t 27,.l,.N] (k := ?_)
  refine a1 28 [] [27, 25, 26, 24, 19, 23, 18, 7, 22, 17, 4, 6, 21, 16, 3, 2, 5, 20, 15, 13, 1, 14, 12, 0, 11, 10, 8, 9] rfl (nF g22) (Stp.callV rfl (by decide) Tryz.call153 rfl rfl (wordsOk_con _)) ?_
  refine go [.N,.t 29,.n] (k := ?_)
  refine tk 30 rfl (Qt.pickF rfl g22) ?_
  refine go [.Z] (k := ?_)
  refine cd (fun c24 => ?_) fun c24 => ?_
  ·try simp only [cnd] at c24
   have hS := i.stop (by omega) (show (fileU l) i.k = false by simp only [fileU, rises, fileOk]; grind only)
   refine go [.R,.a,.Z] (k := ?_)
   refine rt1 2 ?_
   refine rb ?_
   simp only [filesOk_eq]
   grind only
  try simp only [cnd] at c24
  refine go [.J,.R1,.b,.N,.m,.Z] (k := ?_)
  refine ⟨⟨i.k + 1, by omega, i.next (show (fileU l) i.k = true by simp only [fileU, rises, fileOk]; grind only)⟩, ws, ?_⟩
  show l.length - (i.k + 1) < l.length - i.k
  omega
 try simp only [cnd] at c1
 have hA := i.full (by omega)
 refine AW.exit ?_
 dsimp only [thenQ, blockQ, reduceIte]
 refine go [.R,.m,.h,.N,.b,.a,.Z] (k := ?_)
 refine rt1 2 ?_
 refine rb ?_
 simp only [filesOk_eq]
 grind only
theorem pipesOk1_con (p : DPipe) (o : DOpen) : Con Tryz.prog 272 [.g [.v (iv o.Id), .v (iv o.Kind), .v (iv o.Target), .v (iv o.Off), .v (iv o.Refs)], .p base [] 2 0 0] [.rt base .ro (tr [p])] (fun y _ => y = .v (.bool (isEnd p.Id o))) := by
 refine ob Tryz.func272 Tryz.ntmps272 ?_
 refine go [.R,.B,.N,.a,.Z,.R,.G,.f,.N,.l] (k := ?_)
 refine cv Tryz.call273 rfl rfl (isEnd_con _ _) ?_
 refine go [.N,.a,.Z] (k := ?_)
 refine rt1 3 ?_
 rfl
theorem ixOC_con {fid : FuncId} {p : DOpen → Bool} (u0 : DPipe) (hE : Ent Tryz.prog fid) (hp : ∀ x : DOpen, Con Tryz.prog fid [.g [.v (iv x.Id), .v (iv x.Kind), .v (iv x.Target), .v (iv x.Off), .v (iv x.Refs)], .p base [] 2 0 0] [.rt base .ro (tr [u0])] (fun y _ => y = .v (.bool (p x)))) (l : List DOpen) : Con Tryz.prog 334 [.h base [], .f fid [.p (base + 1) [] 2 0 0]] [.rt base .ro (tr l), .rt (base + 1) .ro (tr [u0])] (fun y _ => y = .v (iv (ixOf p l))) := by
 refine ob Tryz.func334 Tryz.ntmps334 ?_
 refine AW.len base [] rfl (by simp [Okp]) rfl (fun hl => ?_)
 refine go [.R,.a,.Z,.R2,.m,.h,.N,.m,.Z] (k := ?_)
 refine AW.block ?_
 refine AW.loopW (fun i : IxInv p l => [.sl 8 (.v (iv i.k)), .sl 7 (.v (iv l.length)), .sl 0 (.h base []), .sl 1 (.f fid [.p (base + 1) [] 2 0 0]), .rt base .ro (tr l), .rt (base + 1) .ro (tr [u0])]) (fun i => l.length - i.k) ⟨0, Nat.zero_le _, rfl⟩ (ws) ?_
 intro i
 have hle := i.le
 refine go [.R,.b,.Z] (k := ?_)
 refine AW.seq ?_
 refine cd (fun c1 => ?_) fun c1 => ?_
 ·try simp only [cnd] at c1
  refine jd (AW.seq (AW.block (sr ?_)))
  refine go [.m,.N,.a,.Z,.R,.m,.m,.N,.m,.i,.G,.N] (k := ?_)
  refine cv hE rfl rfl (Con.simH (hp (l.getD i.k En.dflt)) ⟨⟨_, rfl, (sim_one (fun c hc => match c, hc with | 0, _ => tsr | 1, _ => tsr | c + 2, hc => absurd hc (by simp only [En.n]; omega)))⟩, trivial⟩ rfl rfl rfl) ?_
  refine go [.Z] (k := ?_)
  refine cd (fun c2 => ?_) fun c2 => ?_
  ·try simp only [cnd] at c2
   refine go [.R,.m,.N,.a,.Z] (k := ?_)
   refine rt1 4 ?_
   rw [ixOf_hit i En.dflt (by omega) c2]
   rfl
  try simp only [cnd] at c2
  refine go [.J,.R1,.b,.m,.Z] (k := ?_)
  refine ⟨⟨i.k + 1, by omega, i.next En.dflt (by omega) c2⟩, ws, ?_⟩
  show l.length - (i.k + 1) < l.length - i.k
  omega
 try simp only [cnd] at c1
 refine AW.exit ?_
 dsimp only [thenQ, blockQ, reduceIte]
 refine go [.R,.a,.Z] (k := ?_)
 refine rt1 4 ?_
 rw [ixOf_none i (by omega)]
 rfl
theorem hasOC_con {fid : FuncId} {p : DOpen → Bool} (u0 : DPipe) (hE : Ent Tryz.prog fid) (hp : ∀ x : DOpen, Con Tryz.prog fid [.g [.v (iv x.Id), .v (iv x.Kind), .v (iv x.Target), .v (iv x.Off), .v (iv x.Refs)], .p base [] 2 0 0] [.rt base .ro (tr [u0])] (fun y _ => y = .v (.bool (p x)))) (l : List DOpen) : Con Tryz.prog 271 [.h base [], .f fid [.p (base + 1) [] 2 0 0]] [.rt base .ro (tr l), .rt (base + 1) .ro (tr [u0])] (fun y _ => y = .v (.bool (l.any p))) := by
 refine ob Tryz.func271 Tryz.ntmps271 ?_
 refine go [.R,.a,.Z,.R,.m,.m,.N] (k := ?_)
 refine cv Tryz.call334 rfl rfl (Con.simH (ixOC_con u0 hE hp l) ⟨⟨_, rfl, tsr⟩, ⟨_, rfl, (sim_one (fun c hc => match c, hc with | 0, _ => tsr | 1, _ => tsr | c + 2, hc => absurd hc (by simp only [En.n]; omega)))⟩, trivial⟩ rfl rfl rfl) ?_
 refine go [.N,.b,.a,.Z] (k := ?_)
 refine rt1 4 ?_
 rw [← ixOf_ge]
 rfl
theorem pipesOkI_con (u : DUnix) : Con Tryz.prog 160 [.g [.v (iv u.Next), .v (iv u.Tick), .h base [], .h (base + 1) [], .h (base + 2) [], .h (base + 3) [], .h (base + 4) [], .h (base + 5) [], .h (base + 6) []]] [.rt base .ro (tr u.Progs), .rt (base + 1) .ro (tr u.Procs), .rt (base + 2) .ro (tr u.Opens), .rt (base + 3) .ro (tr u.Pipes), .rt (base + 4) .ro (tr u.Files), .rt (base + 5) .ro (tr u.Ready), .rt (base + 6) .ro (tr u.Out)] (fun y _ => y = .v (.bool (pipesOk u))) := by
 refine ob Tryz.func160 Tryz.ntmps160 ?_
 refine AW.len (base + 3) [] rfl (by simp [Okp]) rfl (fun hl => ?_)
 refine go [.R,.B,.N,.a,.Z,.R2,.f,.l,.N,.h,.m,.Z] (k := ?_)
 refine AW.block ?_
 refine AW.loopW (fun i : AIx (pipeU u) u.Pipes.length => [.sl 8 (.v (iv i.k)), .rt 1 .box (T.s 9 1 fun k c => ([(T.v (iv u.Next), none), (T.v (iv u.Tick), none), (T.j, none), (T.j, none), (T.j, none), (T.j, none), (T.j, none), (T.j, none), (T.j, none)].getD (k * 9 + c) (T.j, none)).fst), .al 1 2 (.h base []), .al 1 3 (.h (base + 1) []), .al 1 4 (.h (base + 2) []), .al 1 5 (.h (base + 3) []), .al 1 6 (.h (base + 4) []), .al 1 7 (.h (base + 5) []), .al 1 8 (.h (base + 6) []), .rt base .ro (tr u.Progs), .rt (base + 1) .ro (tr u.Procs), .rt (base + 2) .ro (tr u.Opens), .rt (base + 3) .ro (tr u.Pipes), .rt (base + 4) .ro (tr u.Files), .rt (base + 5) .ro (tr u.Ready), .rt (base + 6) .ro (tr u.Out), .sl 1 (.p 1 [] 9 0 0), .sl 6 (.h (base + 3) []), .sl 7 (.v (iv u.Pipes.length))]) (fun i => u.Pipes.length - i.k) ⟨0, Nat.zero_le _, fun _ h => absurd h (Nat.not_lt_zero _)⟩ (ws) ?_
 intro i
 have hle := i.le
 have hTi : ((i.k : Int) - 1).toNat = i.k - 1 := by omega
 refine go [.R,.b,.Z] (k := ?_)
 refine AW.seq ?_
 refine cd (fun c1 => ?_) fun c1 => ?_
 ·try simp only [cnd] at c1
  refine jd (AW.seq (AW.block (sr ?_)))
  refine go [.m,.N,.i,.G,.A,.N,.a,.s,.Z] (k := ?_)
  refine AW.seq (AW.seq ?_)
  refine go [.D [0, 1, 3, 4, 5, 6, 7, 8, 9, 10, 11, 12, 13, 14, 15, 16, 17, 18, 19, 20, 21, 22, 23, 24, 25, 26, 27, 28, 30, 31],.t 0,.f,.N,.t 1,.l] (k := ?_)
  refine a1 2 [] [1, 0] rfl rfl (Stp.callV rfl (by decide) Tryz.call152 rfl rfl (inU_con _ _ _)) ?_
  refine go [.N,.t 3,.n,.t 4,.m] (k := ?_)
  refine AWA.split 17 rfl (fun g2 => ?_) (fun g2 => ?_)
  ·refine go [.t 5,.x,.N,.t 6,.x,.t 7,.x,.t 8,.x,.N,.t 9,.x,.t 10,.x,.t 11,.x,.N,.t 12,.x,.t 13,.x,.t 14,.x,.N,.t 15,.x,.t 16,.x,.t 17,.x,.N,.t 18,.x] (k := ?_)
   refine tk 19 rfl (Qt.pickT rfl g2) ?_
   refine go [.t 20,.m,.N] (k := ?_)
   refine AWA.split 33 rfl (fun g3 => ?_) (fun g3 => ?_)
   ·refine go [.t 21,.x,.t 22,.x,.t 23,.x,.N,.t 24,.x] (k := ?_)
    refine tk 25 rfl (Qt.pickT rfl g3) ?_
    refine go [.t 26,.m,.N] (k := ?_)
    refine AWA.split 39 rfl (fun g4 => ?_) (fun g4 => ?_)
    ·refine go [.t 27,.x,.t 28,.x,.O 29 [] [28, 26, 27, 25, 20, 24, 19, 7, 23, 18, 4, 6, 22, 17, 3, 2, 5, 21, 16, 14, 1, 15, 13, 0, 12, 11, 9, 10, 8],.x,.N,.t 30,.x] (k := ?_)
     refine tk 31 rfl (Qt.pickT rfl g4) ?_
     refine go [.Z] (k := ?_)
     refine cd (fun c5 => ?_) fun c5 => ?_
     ·try simp only [cnd] at c5
      have hS := i.stop (by omega) (show (pipeU u) i.k = false by simp only [pipeU, rises, pipeOk]; grind only)
      refine go [.R,.a,.Z] (k := ?_)
      refine rt1 2 ?_
      refine rb ?_
      simp only [pipesOk_eq]
      grind only
     try simp only [cnd] at c5
     refine go [.J,.R,.f,.N,.l] (k := ?_)
     refine qq Qt.makeFunc ?_
     refine cv Tryz.call271 rfl rfl (Con.simH (hasOC_con (u.Pipes.getD i.k En.dflt) Tryz.call272 (fun x => pipesOk1_con (u.Pipes.getD i.k En.dflt) x) u.Opens) ⟨⟨_, rfl, tsr⟩, ⟨_, rfl, (sim_one (fun c hc => match c, hc with | 0, _ => tsr | 1, _ => tsr | c + 2, hc => absurd hc (by simp only [En.n]; omega)))⟩, trivial⟩ rfl rfl rfl) ?_
     refine go [.N,.n,.Z] (k := ?_)
     refine cd (fun c6 => ?_) fun c6 => ?_
     ·try simp only [cnd] at c6
      have hS := i.stop (by omega) (show (pipeU u) i.k = false by simp only [pipeU, rises, pipeOk]; grind only)
      refine go [.R,.a,.Z] (k := ?_)
      refine rt1 2 ?_
      refine rb ?_
      simp only [pipesOk_eq]
      grind only
     try simp only [cnd] at c6
     refine go [.J,.R1,.b,.N,.m,.Z] (k := ?_)
     refine ⟨⟨i.k + 1, by omega, i.next (show (pipeU u) i.k = true by simp only [pipeU, rises, pipeOk]; grind only)⟩, ws, ?_⟩
     show u.Pipes.length - (i.k + 1) < u.Pipes.length - i.k
     omega
    refine go [.t 27,.f,.t 28,.l,.N] (k := ?_)
    refine a1 29 [] [28, 26, 27, 25, 20, 24, 19, 7, 23, 18, 4, 6, 22, 17, 3, 2, 5, 21, 16, 14, 1, 15, 13, 0, 12, 11, 9, 10, 8] rfl (nF g4) (Stp.callV rfl (by decide) Tryz.call153 rfl rfl (wordsOk_con _)) ?_
    refine go [.N,.t 30,.n] (k := ?_)
    refine tk 31 rfl (Qt.pickF rfl g4) ?_
    refine go [.Z] (k := ?_)
    refine cd (fun c7 => ?_) fun c7 => ?_
    ·try simp only [cnd] at c7
     have hS := i.stop (by omega) (show (pipeU u) i.k = false by simp only [pipeU, rises, pipeOk]; grind only)
     refine go [.R,.a,.Z] (k := ?_)
     refine rt1 2 ?_
     refine rb ?_
     simp only [pipesOk_eq]
     grind only
    try simp only [cnd] at c7
    refine go [.J,.R,.f,.N,.l] (k := ?_)
    refine qq Qt.makeFunc ?_
    refine cv Tryz.call271 rfl rfl (Con.simH (hasOC_con (u.Pipes.getD i.k En.dflt) Tryz.call272 (fun x => pipesOk1_con (u.Pipes.getD i.k En.dflt) x) u.Opens) ⟨⟨_, rfl, tsr⟩, ⟨_, rfl, (sim_one (fun c hc => match c, hc with | 0, _ => tsr | 1, _ => tsr | c + 2, hc => absurd hc (by simp only [En.n]; omega)))⟩, trivial⟩ rfl rfl rfl) ?_
    refine go [.N,.n,.Z] (k := ?_)
    refine cd (fun c8 => ?_) fun c8 => ?_
    ·try simp only [cnd] at c8
     have hS := i.stop (by omega) (show (pipeU u) i.k = false by simp only [pipeU, rises, pipeOk]; grind only)
     refine go [.R,.a,.Z] (k := ?_)
     refine rt1 2 ?_
     refine rb ?_
     simp only [pipesOk_eq]
     grind only
    try simp only [cnd] at c8
    refine go [.J,.R1,.b,.N,.m,.Z] (k := ?_)
    refine ⟨⟨i.k + 1, by omega, i.next (show (pipeU u) i.k = true by simp only [pipeU, rises, pipeOk]; grind only)⟩, ws, ?_⟩
    show u.Pipes.length - (i.k + 1) < u.Pipes.length - i.k
    omega
   refine go [.t 21,.f,.t 22,.l,.N,.t 23,.h,.t 24,.b] (k := ?_)
   refine tk 25 rfl (Qt.pickF rfl g3) ?_
   refine go [.N,.t 26,.m] (k := ?_)
   refine AWA.split 39 rfl (fun g9 => ?_) (fun g9 => ?_)
   ·refine go [.t 27,.x,.t 28,.x,.N,.O 29 [] [28, 26, 27, 25, 20, 24, 19, 7, 23, 18, 4, 6, 22, 17, 3, 2, 5, 21, 16, 14, 1, 15, 13, 0, 12, 11, 9, 10, 8],.x,.N,.t 30,.x] (k := ?_)
    refine tk 31 rfl (Qt.pickT rfl g9) ?_
    refine go [.Z] (k := ?_)
    refine cd (fun c10 => ?_) fun c10 => ?_
    ·try simp only [cnd] at c10
     have hS := i.stop (by omega) (show (pipeU u) i.k = false by simp only [pipeU, rises, pipeOk]; grind only)
     refine go [.R,.a,.Z] (k := ?_)
     refine rt1 2 ?_
     refine rb ?_
     simp only [pipesOk_eq]
     grind only
    try simp only [cnd] at c10
    refine go [.J,.R,.f,.N,.l] (k := ?_)
    refine qq Qt.makeFunc ?_
    refine cv Tryz.call271 rfl rfl (Con.simH (hasOC_con (u.Pipes.getD i.k En.dflt) Tryz.call272 (fun x => pipesOk1_con (u.Pipes.getD i.k En.dflt) x) u.Opens) ⟨⟨_, rfl, tsr⟩, ⟨_, rfl, (sim_one (fun c hc => match c, hc with | 0, _ => tsr | 1, _ => tsr | c + 2, hc => absurd hc (by simp only [En.n]; omega)))⟩, trivial⟩ rfl rfl rfl) ?_
    refine go [.N,.n,.Z] (k := ?_)
    refine cd (fun c11 => ?_) fun c11 => ?_
    ·try simp only [cnd] at c11
     have hS := i.stop (by omega) (show (pipeU u) i.k = false by simp only [pipeU, rises, pipeOk]; grind only)
     refine go [.R,.a,.Z] (k := ?_)
     refine rt1 2 ?_
     refine rb ?_
     simp only [pipesOk_eq]
     grind only
    try simp only [cnd] at c11
    refine go [.J,.R1,.b,.N,.m,.Z] (k := ?_)
    refine ⟨⟨i.k + 1, by omega, i.next (show (pipeU u) i.k = true by simp only [pipeU, rises, pipeOk]; grind only)⟩, ws, ?_⟩
    show u.Pipes.length - (i.k + 1) < u.Pipes.length - i.k
    omega
   refine go [.t 27,.f,.t 28,.l,.N] (k := ?_)
   refine a1 29 [] [28, 26, 27, 25, 20, 24, 19, 7, 23, 18, 4, 6, 22, 17, 3, 2, 5, 21, 16, 14, 1, 15, 13, 0, 12, 11, 9, 10, 8] rfl (nF g9) (Stp.callV rfl (by decide) Tryz.call153 rfl rfl (wordsOk_con _)) ?_
   refine go [.N,.t 30,.n] (k := ?_)
   refine tk 31 rfl (Qt.pickF rfl g9) ?_
   refine go [.Z] (k := ?_)
   refine cd (fun c12 => ?_) fun c12 => ?_
   ·try simp only [cnd] at c12
    have hS := i.stop (by omega) (show (pipeU u) i.k = false by simp only [pipeU, rises, pipeOk]; grind only)
    refine go [.R,.a,.Z] (k := ?_)
    refine rt1 2 ?_
    refine rb ?_
    simp only [pipesOk_eq]
    grind only
   try simp only [cnd] at c12
   refine go [.J,.R,.f,.N,.l] (k := ?_)
   refine qq Qt.makeFunc ?_
   refine cv Tryz.call271 rfl rfl (Con.simH (hasOC_con (u.Pipes.getD i.k En.dflt) Tryz.call272 (fun x => pipesOk1_con (u.Pipes.getD i.k En.dflt) x) u.Opens) ⟨⟨_, rfl, tsr⟩, ⟨_, rfl, (sim_one (fun c hc => match c, hc with | 0, _ => tsr | 1, _ => tsr | c + 2, hc => absurd hc (by simp only [En.n]; omega)))⟩, trivial⟩ rfl rfl rfl) ?_
   refine go [.N,.n,.Z] (k := ?_)
   refine cd (fun c13 => ?_) fun c13 => ?_
   ·try simp only [cnd] at c13
    have hS := i.stop (by omega) (show (pipeU u) i.k = false by simp only [pipeU, rises, pipeOk]; grind only)
    refine go [.R,.a,.Z] (k := ?_)
    refine rt1 2 ?_
    refine rb ?_
    simp only [pipesOk_eq]
    grind only
   try simp only [cnd] at c13
   refine go [.J,.R1,.b,.N,.m,.Z] (k := ?_)
   refine ⟨⟨i.k + 1, by omega, i.next (show (pipeU u) i.k = true by simp only [pipeU, rises, pipeOk]; grind only)⟩, ws, ?_⟩
   show u.Pipes.length - (i.k + 1) < u.Pipes.length - i.k
   omega
  refine go [.t 5,.m,.t 6,.b,.N,.t 7,.m] (k := ?_)
  refine AWA.split 20 rfl (fun g14 => ?_) (fun g14 => ?_)
  ·refine go [.t 8,.f,.t 9,.l,.N,.t 10,.m,.t 11,.b,.t 12,.i,.N,.t 13,.f,.t 14,.l,.t 15,.f,.N,.t 16,.l,.t 17,.b] (k := ?_)
   refine tg 18 rfl (nF g2) (Qt.pickT rfl g14) ?_
   refine go [.N] (k := ?_)
   refine tk 19 rfl (Qt.pickF rfl g2) ?_
   refine go [.t 20,.m] (k := ?_)
   refine AWA.split 33 rfl (fun g15 => ?_) (fun g15 => ?_)
   ·refine go [.t 21,.x,.N,.t 22,.x,.t 23,.x,.t 24,.x,.N] (k := ?_)
    refine tk 25 rfl (Qt.pickT rfl g15) ?_
    refine go [.t 26,.m] (k := ?_)
    refine AWA.split 39 rfl (fun g16 => ?_) (fun g16 => ?_)
    ·refine go [.t 27,.x,.N,.t 28,.x,.O 29 [] [28, 26, 27, 25, 20, 24, 19, 7, 23, 18, 4, 6, 22, 17, 3, 2, 5, 21, 16, 14, 1, 15, 13, 0, 12, 11, 9, 10, 8],.x,.N,.t 30,.x] (k := ?_)
     refine tk 31 rfl (Qt.pickT rfl g16) ?_
     refine go [.Z] (k := ?_)
     refine cd (fun c17 => ?_) fun c17 => ?_
     ·try simp only [cnd] at c17
      have hS := i.stop (by omega) (show (pipeU u) i.k = false by simp only [pipeU, rises, pipeOk]; grind only)
      refine go [.R,.a,.Z] (k := ?_)
      refine rt1 2 ?_
      refine rb ?_
      simp only [pipesOk_eq]
      grind only
     try simp only [cnd] at c17
     refine go [.J,.R,.f,.N,.l] (k := ?_)
     refine qq Qt.makeFunc ?_
     refine cv Tryz.call271 rfl rfl (Con.simH (hasOC_con (u.Pipes.getD i.k En.dflt) Tryz.call272 (fun x => pipesOk1_con (u.Pipes.getD i.k En.dflt) x) u.Opens) ⟨⟨_, rfl, tsr⟩, ⟨_, rfl, (sim_one (fun c hc => match c, hc with | 0, _ => tsr | 1, _ => tsr | c + 2, hc => absurd hc (by simp only [En.n]; omega)))⟩, trivial⟩ rfl rfl rfl) ?_
     refine go [.N,.n,.Z] (k := ?_)
     refine cd (fun c18 => ?_) fun c18 => ?_
     ·try simp only [cnd] at c18
      have hS := i.stop (by omega) (show (pipeU u) i.k = false by simp only [pipeU, rises, pipeOk]; grind only)
      refine go [.R,.a,.Z] (k := ?_)
      refine rt1 2 ?_
      refine rb ?_
      simp only [pipesOk_eq]
      grind only
     try simp only [cnd] at c18
     refine go [.J,.R1,.b,.N,.m,.Z] (k := ?_)
     refine ⟨⟨i.k + 1, by omega, i.next (show (pipeU u) i.k = true by simp only [pipeU, rises, pipeOk]; grind only)⟩, ws, ?_⟩
     show u.Pipes.length - (i.k + 1) < u.Pipes.length - i.k
     omega
    refine go [.t 27,.f,.t 28,.l,.N] (k := ?_)
    refine a1 29 [] [28, 26, 27, 25, 20, 24, 19, 7, 23, 18, 4, 6, 22, 17, 3, 2, 5, 21, 16, 14, 1, 15, 13, 0, 12, 11, 9, 10, 8] rfl (nF g16) (Stp.callV rfl (by decide) Tryz.call153 rfl rfl (wordsOk_con _)) ?_
    refine go [.N,.t 30,.n] (k := ?_)
    refine tk 31 rfl (Qt.pickF rfl g16) ?_
    refine go [.Z] (k := ?_)
    refine cd (fun c19 => ?_) fun c19 => ?_
    ·try simp only [cnd] at c19
     have hS := i.stop (by omega) (show (pipeU u) i.k = false by simp only [pipeU, rises, pipeOk]; grind only)
     refine go [.R,.a,.Z] (k := ?_)
     refine rt1 2 ?_
     refine rb ?_
     simp only [pipesOk_eq]
     grind only
    try simp only [cnd] at c19
    refine go [.J,.R,.f,.N,.l] (k := ?_)
    refine qq Qt.makeFunc ?_
    refine cv Tryz.call271 rfl rfl (Con.simH (hasOC_con (u.Pipes.getD i.k En.dflt) Tryz.call272 (fun x => pipesOk1_con (u.Pipes.getD i.k En.dflt) x) u.Opens) ⟨⟨_, rfl, tsr⟩, ⟨_, rfl, (sim_one (fun c hc => match c, hc with | 0, _ => tsr | 1, _ => tsr | c + 2, hc => absurd hc (by simp only [En.n]; omega)))⟩, trivial⟩ rfl rfl rfl) ?_
    refine go [.N,.n,.Z] (k := ?_)
    refine cd (fun c20 => ?_) fun c20 => ?_
    ·try simp only [cnd] at c20
     have hS := i.stop (by omega) (show (pipeU u) i.k = false by simp only [pipeU, rises, pipeOk]; grind only)
     refine go [.R,.a,.Z] (k := ?_)
     refine rt1 2 ?_
     refine rb ?_
     simp only [pipesOk_eq]
     grind only
    try simp only [cnd] at c20
    refine go [.J,.R1,.b,.N,.m,.Z] (k := ?_)
    refine ⟨⟨i.k + 1, by omega, i.next (show (pipeU u) i.k = true by simp only [pipeU, rises, pipeOk]; grind only)⟩, ws, ?_⟩
    show u.Pipes.length - (i.k + 1) < u.Pipes.length - i.k
    omega
   refine go [.t 21,.f,.t 22,.l,.N,.t 23,.h,.t 24,.b] (k := ?_)
   refine tk 25 rfl (Qt.pickF rfl g15) ?_
   refine go [.N,.t 26,.m] (k := ?_)
   refine AWA.split 39 rfl (fun g21 => ?_) (fun g21 => ?_)
   ·refine go [.t 27,.x,.t 28,.x,.N,.O 29 [] [28, 26, 27, 25, 20, 24, 19, 7, 23, 18, 4, 6, 22, 17, 3, 2, 5, 21, 16, 14, 1, 15, 13, 0, 12, 11, 9, 10, 8],.x,.N,.t 30,.x] (k := ?_)
    refine tk 31 rfl (Qt.pickT rfl g21) ?_
    refine go [.Z] (k := ?_)
    refine cd (fun c22 => ?_) fun c22 => ?_
    ·try simp only [cnd] at c22
     have hS := i.stop (by omega) (show (pipeU u) i.k = false by simp only [pipeU, rises, pipeOk]; grind only)
     refine go [.R,.a,.Z] (k := ?_)
     refine rt1 2 ?_
     refine rb ?_
     simp only [pipesOk_eq]
     grind only
    try simp only [cnd] at c22
    refine go [.J,.R,.f,.N,.l] (k := ?_)
    refine qq Qt.makeFunc ?_
    refine cv Tryz.call271 rfl rfl (Con.simH (hasOC_con (u.Pipes.getD i.k En.dflt) Tryz.call272 (fun x => pipesOk1_con (u.Pipes.getD i.k En.dflt) x) u.Opens) ⟨⟨_, rfl, tsr⟩, ⟨_, rfl, (sim_one (fun c hc => match c, hc with | 0, _ => tsr | 1, _ => tsr | c + 2, hc => absurd hc (by simp only [En.n]; omega)))⟩, trivial⟩ rfl rfl rfl) ?_
    refine go [.N,.n,.Z] (k := ?_)
    refine cd (fun c23 => ?_) fun c23 => ?_
    ·try simp only [cnd] at c23
     have hS := i.stop (by omega) (show (pipeU u) i.k = false by simp only [pipeU, rises, pipeOk]; grind only)
     refine go [.R,.a,.Z] (k := ?_)
     refine rt1 2 ?_
     refine rb ?_
     simp only [pipesOk_eq]
     grind only
    try simp only [cnd] at c23
    refine go [.J,.R1,.b,.N,.m,.Z] (k := ?_)
    refine ⟨⟨i.k + 1, by omega, i.next (show (pipeU u) i.k = true by simp only [pipeU, rises, pipeOk]; grind only)⟩, ws, ?_⟩
    show u.Pipes.length - (i.k + 1) < u.Pipes.length - i.k
    omega
   refine go [.t 27,.f,.t 28,.l,.N] (k := ?_)
   refine a1 29 [] [28, 26, 27, 25, 20, 24, 19, 7, 23, 18, 4, 6, 22, 17, 3, 2, 5, 21, 16, 14, 1, 15, 13, 0, 12, 11, 9, 10, 8] rfl (nF g21) (Stp.callV rfl (by decide) Tryz.call153 rfl rfl (wordsOk_con _)) ?_
   refine go [.N,.t 30,.n] (k := ?_)
   refine tk 31 rfl (Qt.pickF rfl g21) ?_
   refine go [.Z] (k := ?_)
   refine cd (fun c24 => ?_) fun c24 => ?_
   ·try simp only [cnd] at c24
    have hS := i.stop (by omega) (show (pipeU u) i.k = false by simp only [pipeU, rises, pipeOk]; grind only)
    refine go [.R,.a,.Z] (k := ?_)
    refine rt1 2 ?_
    refine rb ?_
    simp only [pipesOk_eq]
    grind only
   try simp only [cnd] at c24
   refine go [.J,.R,.f,.N,.l] (k := ?_)
   refine qq Qt.makeFunc ?_
   refine cv Tryz.call271 rfl rfl (Con.simH (hasOC_con (u.Pipes.getD i.k En.dflt) Tryz.call272 (fun x => pipesOk1_con (u.Pipes.getD i.k En.dflt) x) u.Opens) ⟨⟨_, rfl, tsr⟩, ⟨_, rfl, (sim_one (fun c hc => match c, hc with | 0, _ => tsr | 1, _ => tsr | c + 2, hc => absurd hc (by simp only [En.n]; omega)))⟩, trivial⟩ rfl rfl rfl) ?_
   refine go [.N,.n,.Z] (k := ?_)
   refine cd (fun c25 => ?_) fun c25 => ?_
   ·try simp only [cnd] at c25
    have hS := i.stop (by omega) (show (pipeU u) i.k = false by simp only [pipeU, rises, pipeOk]; grind only)
    refine go [.R,.a,.Z] (k := ?_)
    refine rt1 2 ?_
    refine rb ?_
    simp only [pipesOk_eq]
    grind only
   try simp only [cnd] at c25
   refine go [.J,.R1,.b,.N,.m,.Z] (k := ?_)
   refine ⟨⟨i.k + 1, by omega, i.next (show (pipeU u) i.k = true by simp only [pipeU, rises, pipeOk]; grind only)⟩, ws, ?_⟩
   show u.Pipes.length - (i.k + 1) < u.Pipes.length - i.k
   omega
  refine go [.t 8,.x,.t 9,.x,.N,.t 10,.x,.t 11,.x,.t 12,.x,.N,.t 13,.x,.t 14,.x,.t 15,.x,.N,.t 16,.x,.t 17,.x] (k := ?_)
  refine tg 18 rfl (nF g2) (Qt.pickF rfl g14) ?_
  refine go [.N] (k := ?_)
  refine tk 19 rfl (Qt.pickF rfl g2) ?_
  refine go [.t 20,.m] (k := ?_)
  refine AWA.split 33 rfl (fun g26 => ?_) (fun g26 => ?_)
  ·refine go [.t 21,.x,.N,.t 22,.x,.t 23,.x,.t 24,.x,.N] (k := ?_)
   refine tk 25 rfl (Qt.pickT rfl g26) ?_
   refine go [.t 26,.m] (k := ?_)
   refine AWA.split 39 rfl (fun g27 => ?_) (fun g27 => ?_)
   ·refine go [.t 27,.x,.N,.t 28,.x,.O 29 [] [28, 26, 27, 25, 20, 24, 19, 7, 23, 18, 4, 6, 22, 17, 3, 2, 5, 21, 16, 14, 1, 15, 13, 0, 12, 11, 9, 10, 8],.x,.N,.t 30,.x] (k := ?_)
    refine tk 31 rfl (Qt.pickT rfl g27) ?_
    refine go [.Z] (k := ?_)
    refine cd (fun c28 => ?_) fun c28 => ?_
    ·try simp only [cnd] at c28
     have hS := i.stop (by omega) (show (pipeU u) i.k = false by simp only [pipeU, rises, pipeOk]; grind only)
     refine go [.R,.a,.Z] (k := ?_)
     refine rt1 2 ?_
     refine rb ?_
     simp only [pipesOk_eq]
     grind only
    try simp only [cnd] at c28
    refine go [.J,.R,.f,.N,.l] (k := ?_)
    refine qq Qt.makeFunc ?_
    refine cv Tryz.call271 rfl rfl (Con.simH (hasOC_con (u.Pipes.getD i.k En.dflt) Tryz.call272 (fun x => pipesOk1_con (u.Pipes.getD i.k En.dflt) x) u.Opens) ⟨⟨_, rfl, tsr⟩, ⟨_, rfl, (sim_one (fun c hc => match c, hc with | 0, _ => tsr | 1, _ => tsr | c + 2, hc => absurd hc (by simp only [En.n]; omega)))⟩, trivial⟩ rfl rfl rfl) ?_
    refine go [.N,.n,.Z] (k := ?_)
    refine cd (fun c29 => ?_) fun c29 => ?_
    ·try simp only [cnd] at c29
     have hS := i.stop (by omega) (show (pipeU u) i.k = false by simp only [pipeU, rises, pipeOk]; grind only)
     refine go [.R,.a,.Z] (k := ?_)
     refine rt1 2 ?_
     refine rb ?_
     simp only [pipesOk_eq]
     grind only
    try simp only [cnd] at c29
    refine go [.J,.R1,.b,.N,.m,.Z] (k := ?_)
    refine ⟨⟨i.k + 1, by omega, i.next (show (pipeU u) i.k = true by simp only [pipeU, rises, pipeOk]; grind only)⟩, ws, ?_⟩
    show u.Pipes.length - (i.k + 1) < u.Pipes.length - i.k
    omega
   refine go [.t 27,.f,.t 28,.l,.N] (k := ?_)
   refine a1 29 [] [28, 26, 27, 25, 20, 24, 19, 7, 23, 18, 4, 6, 22, 17, 3, 2, 5, 21, 16, 14, 1, 15, 13, 0, 12, 11, 9, 10, 8] rfl (nF g27) (Stp.callV rfl (by decide) Tryz.call153 rfl rfl (wordsOk_con _)) ?_
   refine go [.N,.t 30,.n] (k := ?_)
   refine tk 31 rfl (Qt.pickF rfl g27) ?_
   refine go [.Z] (k := ?_)
   refine cd (fun c30 => ?_) fun c30 => ?_
   ·try simp only [cnd] at c30
    have hS := i.stop (by omega) (show (pipeU u) i.k = false by simp only [pipeU, rises, pipeOk]; grind only)
    refine go [.R,.a,.Z] (k := ?_)
    refine rt1 2 ?_
    refine rb ?_
    simp only [pipesOk_eq]
    grind only
   try simp only [cnd] at c30
   refine go [.J,.R,.f,.N,.l] (k := ?_)
   refine qq Qt.makeFunc ?_
   refine cv Tryz.call271 rfl rfl (Con.simH (hasOC_con (u.Pipes.getD i.k En.dflt) Tryz.call272 (fun x => pipesOk1_con (u.Pipes.getD i.k En.dflt) x) u.Opens) ⟨⟨_, rfl, tsr⟩, ⟨_, rfl, (sim_one (fun c hc => match c, hc with | 0, _ => tsr | 1, _ => tsr | c + 2, hc => absurd hc (by simp only [En.n]; omega)))⟩, trivial⟩ rfl rfl rfl) ?_
   refine go [.N,.n,.Z] (k := ?_)
   refine cd (fun c31 => ?_) fun c31 => ?_
   ·try simp only [cnd] at c31
    have hS := i.stop (by omega) (show (pipeU u) i.k = false by simp only [pipeU, rises, pipeOk]; grind only)
    refine go [.R,.a,.Z] (k := ?_)
    refine rt1 2 ?_
    refine rb ?_
    simp only [pipesOk_eq]
    grind only
   try simp only [cnd] at c31
   refine go [.J,.R1,.b,.N,.m,.Z] (k := ?_)
   refine ⟨⟨i.k + 1, by omega, i.next (show (pipeU u) i.k = true by simp only [pipeU, rises, pipeOk]; grind only)⟩, ws, ?_⟩
   show u.Pipes.length - (i.k + 1) < u.Pipes.length - i.k
   omega
  refine go [.t 21,.f,.t 22,.l,.N,.t 23,.h,.t 24,.b] (k := ?_)
  refine tk 25 rfl (Qt.pickF rfl g26) ?_
  refine go [.N,.t 26,.m] (k := ?_)
  refine AWA.split 39 rfl (fun g32 => ?_) (fun g32 => ?_)
  ·refine go [.t 27,.x,.t 28,.x,.N,.O 29 [] [28, 26, 27, 25, 20, 24, 19, 7, 23, 18, 4, 6, 22, 17, 3, 2, 5, 21, 16, 14, 1, 15, 13, 0, 12, 11, 9, 10, 8],.x,.N,.t 30,.x] (k := ?_)
   refine tk 31 rfl (Qt.pickT rfl g32) ?_
   refine go [.Z] (k := ?_)
   refine cd (fun c33 => ?_) fun c33 => ?_
   ·try simp only [cnd] at c33
    have hS := i.stop (by omega) (show (pipeU u) i.k = false by simp only [pipeU, rises, pipeOk]; grind only)
    refine go [.R,.a,.Z] (k := ?_)
    refine rt1 2 ?_
    refine rb ?_
    simp only [pipesOk_eq]
    grind only
   try simp only [cnd] at c33
   refine go [.J,.R,.f,.N,.l] (k := ?_)
   refine qq Qt.makeFunc ?_
   refine cv Tryz.call271 rfl rfl (Con.simH (hasOC_con (u.Pipes.getD i.k En.dflt) Tryz.call272 (fun x => pipesOk1_con (u.Pipes.getD i.k En.dflt) x) u.Opens) ⟨⟨_, rfl, tsr⟩, ⟨_, rfl, (sim_one (fun c hc => match c, hc with | 0, _ => tsr | 1, _ => tsr | c + 2, hc => absurd hc (by simp only [En.n]; omega)))⟩, trivial⟩ rfl rfl rfl) ?_
   refine go [.N,.n,.Z] (k := ?_)
   refine cd (fun c34 => ?_) fun c34 => ?_
   ·try simp only [cnd] at c34
    have hS := i.stop (by omega) (show (pipeU u) i.k = false by simp only [pipeU, rises, pipeOk]; grind only)
    refine go [.R,.a,.Z] (k := ?_)
    refine rt1 2 ?_
    refine rb ?_
    simp only [pipesOk_eq]
    grind only
   try simp only [cnd] at c34
   refine go [.J,.R1,.b,.N,.m,.Z] (k := ?_)
   refine ⟨⟨i.k + 1, by omega, i.next (show (pipeU u) i.k = true by simp only [pipeU, rises, pipeOk]; grind only)⟩, ws, ?_⟩
   show u.Pipes.length - (i.k + 1) < u.Pipes.length - i.k
   omega
  refine go [.t 27,.f,.t 28,.l,.N] (k := ?_)
  refine a1 29 [] [28, 26, 27, 25, 20, 24, 19, 7, 23, 18, 4, 6, 22, 17, 3, 2, 5, 21, 16, 14, 1, 15, 13, 0, 12, 11, 9, 10, 8] rfl (nF g32) (Stp.callV rfl (by decide) Tryz.call153 rfl rfl (wordsOk_con _)) ?_
  refine go [.N,.t 30,.n] (k := ?_)
  refine tk 31 rfl (Qt.pickF rfl g32) ?_
  refine go [.Z] (k := ?_)
  refine cd (fun c35 => ?_) fun c35 => ?_
  ·try simp only [cnd] at c35
   have hS := i.stop (by omega) (show (pipeU u) i.k = false by simp only [pipeU, rises, pipeOk]; grind only)
   refine go [.R,.a,.Z] (k := ?_)
   refine rt1 2 ?_
   refine rb ?_
   simp only [pipesOk_eq]
   grind only
  try simp only [cnd] at c35
  refine go [.J,.R,.f,.N,.l] (k := ?_)
  refine qq Qt.makeFunc ?_
  refine cv Tryz.call271 rfl rfl (Con.simH (hasOC_con (u.Pipes.getD i.k En.dflt) Tryz.call272 (fun x => pipesOk1_con (u.Pipes.getD i.k En.dflt) x) u.Opens) ⟨⟨_, rfl, tsr⟩, ⟨_, rfl, (sim_one (fun c hc => match c, hc with | 0, _ => tsr | 1, _ => tsr | c + 2, hc => absurd hc (by simp only [En.n]; omega)))⟩, trivial⟩ rfl rfl rfl) ?_
  refine go [.N,.n,.Z] (k := ?_)
  refine cd (fun c36 => ?_) fun c36 => ?_
  ·try simp only [cnd] at c36
   have hS := i.stop (by omega) (show (pipeU u) i.k = false by simp only [pipeU, rises, pipeOk]; grind only)
   refine go [.R,.a,.Z] (k := ?_)
   refine rt1 2 ?_
   refine rb ?_
   simp only [pipesOk_eq]
   grind only
  try simp only [cnd] at c36
  refine go [.J,.R1,.b,.N,.m,.Z] (k := ?_)
  refine ⟨⟨i.k + 1, by omega, i.next (show (pipeU u) i.k = true by simp only [pipeU, rises, pipeOk]; grind only)⟩, ws, ?_⟩
  show u.Pipes.length - (i.k + 1) < u.Pipes.length - i.k
  omega
 try simp only [cnd] at c1
 have hA := i.full (by omega)
 refine AW.exit ?_
 dsimp only [thenQ, blockQ, reduceIte]
 refine go [.R,.f,.l,.N,.h,.b,.a,.Z] (k := ?_)
 refine rt1 2 ?_
 refine rb ?_
 simp only [pipesOk_eq]
 grind only
end Go.Proofs.YthjfgpkjooaahaaGreat.VM

