/- Contracts. No conditions. -/
import Derived.Test.YthjfgpkjooaahaaGreatCU6
set_option linter.all false
set_option maxHeartbeats 8000000
set_option maxRecDepth 10000
namespace Go.Proofs.YthjfgpkjooaahaaGreat.VM
open Go Go.RowKit Go.Proofs
theorem l6Things_con (u : DUnix) (hb : unixB u) : Con Tryz.prog 140 [.g [.v (iv u.Next), .v (iv u.Tick), .h base [], .h (base + 1) [], .h (base + 2) [], .h (base + 3) [], .h (base + 4) [], .h (base + 5) [], .h (base + 6) []]] [.rt base .ro (tr u.Progs), .rt (base + 1) .ro (tr u.Procs), .rt (base + 2) .ro (tr u.Opens), .rt (base + 3) .ro (tr u.Pipes), .rt (base + 4) .ro (tr u.Files), .rt (base + 5) .ro (tr u.Ready), .rt (base + 6) .ro (tr u.Out)] (fun y _ => y = .v (.bool (thingsOk u))) := by
 refine ob Tryz.func140 Tryz.ntmps140 ?_
 refine AW.len (base + 2) [] rfl (by simp [Okp]) rfl (fun hl2 => ?_)
 refine AW.len (base + 3) [] rfl (by simp [Okp]) rfl (fun hl3 => ?_)
 refine AW.len (base + 4) [] rfl (by simp [Okp]) rfl (fun hl4 => ?_)
 have hob := hb.opens
 refine go [.R,.B,.N,.a,.Z,.R2,.f,.l,.N,.h,.b,.m,.N] (k := ?_)
 apply AWL.cut 4
 ·intro Kg1
  refine AWL.splitF 12 rfl (fun g1 => ?_) (fun g1 => ?_)
  ·refine go [.f,.l,.h,.N,.b] (k := ?_)
   exact wjT 16 [13, 14, 15, 16] (ifF g1 _ undef) Kg1
  ·refine go [.x,.x,.x,.x] (k := ?_)
   exact wjF 16 [13, 14, 15, 16] (ifT g1 undef _) Kg1
 refine qq (Qt.pickOr rfl rfl rfl) ?_
 refine go [.m,.N] (k := ?_)
 apply AWL.cut 4
 ·intro Kg2
  refine AWL.splitF 18 rfl (fun g2 => ?_) (fun g2 => ?_)
  ·refine go [.f,.l,.h,.N,.b] (k := ?_)
   exact wjT 22 [19, 20, 21, 22] (ifF g2 _ undef) Kg2
  ·refine go [.x,.x,.x,.x] (k := ?_)
   exact wjF 22 [19, 20, 21, 22] (ifT g2 undef _) Kg2
 refine qq (Qt.pickOr rfl rfl rfl) ?_
 refine go [.Z] (k := ?_)
 refine cd (fun c3 => ?_) fun c3 => ?_
 ·try simp only [cnd] at c3
  refine go [.R,.a,.Z] (k := ?_)
  refine rt1 2 ?_
  refine rb ?_
  simp only [thingsOk, opensOk_eq, pipesOk_eq, filesOk_eq]
  grind only
 try simp only [cnd] at c3
 refine jd (sr2 ?_)
 refine go [.a,.Z] (k := ?_)
 refine AW.block ?_
 refine AW.loopW (fun i : AIx (openU u) u.Opens.length => [.sl 3 (.v (iv i.k)), .rt 1 .box (T.s 9 1 fun k c => ([(T.v (iv u.Next), none), (T.v (iv u.Tick), none), (T.j, none), (T.j, none), (T.j, none), (T.j, none), (T.j, none), (T.j, none), (T.j, none)].getD (k * 9 + c) (T.j, none)).fst), .al 1 2 (.h base []), .al 1 3 (.h (base + 1) []), .al 1 4 (.h (base + 2) []), .al 1 5 (.h (base + 3) []), .al 1 6 (.h (base + 4) []), .al 1 7 (.h (base + 5) []), .al 1 8 (.h (base + 6) []), .rt base .ro (tr u.Progs), .rt (base + 1) .ro (tr u.Procs), .rt (base + 2) .ro (tr u.Opens), .rt (base + 3) .ro (tr u.Pipes), .rt (base + 4) .ro (tr u.Files), .rt (base + 5) .ro (tr u.Ready), .rt (base + 6) .ro (tr u.Out), .sl 1 (.p 1 [] 9 0 0)]) (fun i => u.Opens.length - i.k) ⟨0, Nat.zero_le _, fun _ h => absurd h (Nat.not_lt_zero _)⟩ (ws) ?_
 intro i
 have hle := i.le
 have hTi : ((i.k : Int) - 1).toNat = i.k - 1 := by omega
 refine go [.R2,.m,.N,.f,.l,.h,.N,.b,.Z] (k := ?_)
 refine cd (fun c4 => ?_) fun c4 => ?_
 ·try simp only [cnd] at c4
  refine jd (AW.seq (AW.block (AW.seq ?_)))
  refine go [.D [0, 1, 2, 3, 4, 5, 7, 8, 9, 10, 11, 12, 13, 14, 15, 16, 17, 18, 19, 20, 21, 22, 23, 24, 25, 26, 27],.t 0,.G,.t 1,.f,.N,.t 2,.l,.t 3,.m,.t 4,.i,.N,.t 5,.G] (k := ?_)
  refine a1 6 [] [5, 0, 4, 3, 2, 1] rfl rfl (Stp.callV rfl (by decide) Tryz.call249 rfl rfl (l6OpenOk_con u _ hb)) ?_
  refine go [.N,.t 7,.n,.t 8,.m] (k := ?_)
  refine AWA.split 39 rfl (fun g5 => ?_) (fun g5 => ?_)
  ·refine go [.t 9,.x,.N,.t 10,.x,.t 11,.x,.t 12,.x,.N,.t 13,.x,.t 14,.x,.t 15,.x,.N,.t 16,.x,.t 17,.x,.t 18,.x,.N,.t 19,.x,.t 20,.x,.t 21,.x,.N,.t 22,.x,.t 23,.x,.t 24,.x,.N,.t 25,.x,.t 26,.x] (k := ?_)
   refine tk 27 rfl (Qt.pickT rfl g5) ?_
   refine go [.N,.Z] (k := ?_)
   refine cd (fun c6 => ?_) fun c6 => ?_
   ·try simp only [cnd] at c6
    have hS := i.stop (by omega) (show (openU u) i.k = false by simp only [openU, rises]; grind only)
    refine go [.R,.a,.Z] (k := ?_)
    refine rt1 2 ?_
    refine rb ?_
    simp only [thingsOk, opensOk_eq, pipesOk_eq, filesOk_eq]
    grind only
   try simp only [cnd] at c6
   refine go [.J,.R1,.m,.b,.N,.a,.Z] (k := ?_)
   refine ⟨⟨i.k + 1, by omega, i.next (show (openU u) i.k = true by simp only [openU, rises]; grind only)⟩, ws, ?_⟩
   show u.Opens.length - (i.k + 1) < u.Opens.length - i.k
   omega
  refine go [.t 9,.m,.t 10,.b,.N,.t 11,.m] (k := ?_)
  refine AWA.split 42 rfl (fun g7 => ?_) (fun g7 => ?_)
  ·refine go [.t 12,.f,.t 13,.l,.N,.t 14,.m,.t 15,.b,.t 16,.i,.N,.t 17,.f,.t 18,.l,.t 19,.f,.N,.t 20,.l,.t 21,.m,.t 22,.i,.N,.t 23,.f,.t 24,.l,.t 25,.b,.N] (k := ?_)
   refine tg 26 rfl (nF g5) (Qt.pickT rfl g7) ?_
   refine tk 27 rfl (Qt.pickF rfl g5) ?_
   refine go [.Z] (k := ?_)
   refine cd (fun c8 => ?_) fun c8 => ?_
   ·try simp only [cnd] at c8
    have hS := i.stop (by omega) (show (openU u) i.k = false by simp only [openU, rises]; grind only)
    refine go [.R,.a,.Z] (k := ?_)
    refine rt1 2 ?_
    refine rb ?_
    simp only [thingsOk, opensOk_eq, pipesOk_eq, filesOk_eq]
    grind only
   try simp only [cnd] at c8
   refine go [.J,.R1,.m,.N,.b,.a,.Z] (k := ?_)
   refine ⟨⟨i.k + 1, by omega, i.next (show (openU u) i.k = true by simp only [openU, rises]; grind only)⟩, ws, ?_⟩
   show u.Opens.length - (i.k + 1) < u.Opens.length - i.k
   omega
  refine go [.t 12,.x,.N,.t 13,.x,.t 14,.x,.t 15,.x,.N,.t 16,.x,.t 17,.x,.t 18,.x,.N,.t 19,.x,.t 20,.x,.t 21,.x,.N,.t 22,.x,.t 23,.x,.t 24,.x,.N,.t 25,.x] (k := ?_)
  refine tg 26 rfl (nF g5) (Qt.pickF rfl g7) ?_
  refine tk 27 rfl (Qt.pickF rfl g5) ?_
  refine go [.N,.Z] (k := ?_)
  refine cd (fun c9 => ?_) fun c9 => ?_
  ·try simp only [cnd] at c9
   have hS := i.stop (by omega) (show (openU u) i.k = false by simp only [openU, rises]; grind only)
   refine go [.R,.a,.Z] (k := ?_)
   refine rt1 2 ?_
   refine rb ?_
   simp only [thingsOk, opensOk_eq, pipesOk_eq, filesOk_eq]
   grind only
  try simp only [cnd] at c9
  refine go [.J,.R1,.m,.b,.N,.a,.Z] (k := ?_)
  refine ⟨⟨i.k + 1, by omega, i.next (show (openU u) i.k = true by simp only [openU, rises]; grind only)⟩, ws, ?_⟩
  show u.Opens.length - (i.k + 1) < u.Opens.length - i.k
  omega
 try simp only [cnd] at c4
 have hA := i.full (by omega)
 refine AW.exit ?_
 dsimp only [thenQ, blockQ, reduceIte]
 refine go [.R2,.a,.Z] (k := ?_)
 refine AW.block ?_
 refine AW.loopW (fun j : AIx (pipeU u) u.Pipes.length => [.sl 4 (.v (iv j.k)), .rt 1 .box (T.s 9 1 fun k c => ([(T.v (iv u.Next), none), (T.v (iv u.Tick), none), (T.j, none), (T.j, none), (T.j, none), (T.j, none), (T.j, none), (T.j, none), (T.j, none)].getD (k * 9 + c) (T.j, none)).fst), .al 1 2 (.h base []), .al 1 3 (.h (base + 1) []), .al 1 4 (.h (base + 2) []), .al 1 5 (.h (base + 3) []), .al 1 6 (.h (base + 4) []), .al 1 7 (.h (base + 5) []), .al 1 8 (.h (base + 6) []), .rt base .ro (tr u.Progs), .rt (base + 1) .ro (tr u.Procs), .rt (base + 2) .ro (tr u.Opens), .rt (base + 3) .ro (tr u.Pipes), .rt (base + 4) .ro (tr u.Files), .rt (base + 5) .ro (tr u.Ready), .rt (base + 6) .ro (tr u.Out), .sl 1 (.p 1 [] 9 0 0)]) (fun j => u.Pipes.length - j.k) ⟨0, Nat.zero_le _, fun _ h => absurd h (Nat.not_lt_zero _)⟩ (ws) ?_
 intro j
 have hlej := j.le
 have hTj : ((j.k : Int) - 1).toNat = j.k - 1 := by omega
 have hEn := ends_zero u (u.Pipes.getD j.k En.dflt).Id
 have hE3 := endsN_le u (u.Pipes.getD j.k En.dflt).Id 3 u.Opens.length
 have hE4 := endsN_le u (u.Pipes.getD j.k En.dflt).Id 4 u.Opens.length
 refine go [.R2,.m,.N,.f,.l,.h,.N,.b,.Z] (k := ?_)
 refine cd (fun c10 => ?_) fun c10 => ?_
 ·try simp only [cnd] at c10
  refine jd (AW.seq (AW.block (sr ?_)))
  refine go [.f,.l,.N,.m,.i,.G,.N,.A,.N,.s,.Z] (k := ?_)
  refine AW.seq ?_
  refine go [.D [0, 1, 3, 4, 5, 6, 7, 8, 9, 10, 11, 12, 14, 15, 16, 17, 18, 19, 20, 21, 22, 23, 24, 25, 26, 27, 28, 29, 30, 31, 32, 33, 34, 35, 37, 38, 39, 41, 42, 43],.t 0,.f,.N,.t 1,.l] (k := ?_)
  refine a1 2 [] [1, 0] rfl rfl (Stp.callV rfl (by decide) Tryz.call135 rfl rfl (l1InU_con _ _ _)) ?_
  refine go [.N,.t 3,.n,.t 4,.m] (k := ?_)
  refine AWA.split 75 rfl (fun g11 => ?_) (fun g11 => ?_)
  ·refine go [.t 5,.x,.N,.t 6,.x,.t 7,.x,.t 8,.x,.N] (k := ?_)
   refine tk 9 rfl (Qt.pickT rfl g11) ?_
   refine go [.t 10,.m] (k := ?_)
   refine AWA.split 81 rfl (fun g12 => ?_) (fun g12 => ?_)
   ·refine go [.t 11,.x,.N,.t 12,.x,.O 13 [] [12, 10, 11, 9, 4, 8, 3, 2, 7, 1, 6, 0, 5],.x,.N,.t 14,.x] (k := ?_)
    refine tk 15 rfl (Qt.pickT rfl g12) ?_
    refine go [.t 16,.m,.N] (k := ?_)
    refine AWA.split 87 rfl (fun g13 => ?_) (fun g13 => ?_)
    ·refine go [.t 17,.x,.t 18,.x,.t 19,.x,.N,.t 20,.x,.t 21,.x,.t 22,.x,.N,.t 23,.x,.t 24,.x,.t 25,.x,.N,.t 26,.x,.t 27,.x,.t 28,.x,.N,.t 29,.x,.t 30,.x] (k := ?_)
     refine tk 31 rfl (Qt.pickT rfl g13) ?_
     refine go [.N,.t 32,.m] (k := ?_)
     refine AWA.split 103 rfl (fun g14 => ?_) (fun g14 => ?_)
     ·refine go [.t 33,.x,.t 34,.x,.N,.t 35,.x,.t 37,.x,.t 38,.x,.N,.t 39,.x,.O 36 [37, 38, 39] [35, 33, 32, 34, 31, 19, 30, 16, 18, 29, 15, 13, 17, 28, 26, 14, 10, 12, 27, 25, 9, 4, 11, 24, 8, 3, 2, 23, 21, 7, 1, 22, 20, 6, 0, 5],.x,.N,.g,.x,.g,.x,.g,.x,.N,.O 40 [] [39, 37, 36, 32, 38, 35, 33, 31, 19, 34, 30, 16, 18, 29, 15, 13, 17, 28, 26, 14, 10, 12, 27, 25, 9, 4, 11, 24, 8, 3, 2, 23, 21, 7, 1, 22, 20, 6, 0, 5],.x,.N,.t 41,.x,.t 42,.x] (k := ?_)
      refine tk 43 rfl (Qt.pickT rfl g14) ?_
      refine go [.N,.Z] (k := ?_)
      refine cd (fun c15 => ?_) fun c15 => ?_
      ·try simp only [cnd] at c15
       have hS := j.stop (by omega) (show (pipeU u) j.k = false by simp only [pipeU, rises, pipeOk]; grind only)
       refine go [.R,.a,.Z] (k := ?_)
       refine rt1 2 ?_
       refine rb ?_
       simp only [thingsOk, opensOk_eq, pipesOk_eq, filesOk_eq]
       grind only
      try simp only [cnd] at c15
      refine go [.J,.R1,.m,.b,.N,.a,.Z] (k := ?_)
      refine ⟨⟨j.k + 1, by omega, j.next (show (pipeU u) j.k = true by simp only [pipeU, rises, pipeOk]; grind only)⟩, ws, ?_⟩
      show u.Pipes.length - (j.k + 1) < u.Pipes.length - j.k
      omega
     refine go [.t 33,.G,.t 34,.f,.N,.t 35,.l,.t 37,.G,.t 38,.f,.N,.t 39,.l] (k := ?_)
     refine a1 36 [37, 38, 39] [35, 33, 32, 34, 31, 19, 30, 16, 18, 29, 15, 13, 17, 28, 26, 14, 10, 12, 27, 25, 9, 4, 11, 24, 8, 3, 2, 23, 21, 7, 1, 22, 20, 6, 0, 5] rfl (nF g14) (Stp.callV rfl (by decide) Tryz.call250 rfl rfl (l6Ends_con u _ _ hb)) ?_
     refine go [.N,.g,.G,.g,.f,.g,.l,.N] (k := ?_)
     refine a1 40 [] [39, 37, 36, 32, 38, 35, 33, 31, 19, 34, 30, 16, 18, 29, 15, 13, 17, 28, 26, 14, 10, 12, 27, 25, 9, 4, 11, 24, 8, 3, 2, 23, 21, 7, 1, 22, 20, 6, 0, 5] rfl (nF g14) (Stp.callV rfl (by decide) Tryz.call250 rfl rfl (l6Ends_con u _ _ hb)) ?_
     refine go [.N,.t 41,.b,.t 42,.b] (k := ?_)
     refine tk 43 rfl (Qt.pickF rfl g14) ?_
     refine go [.N,.Z] (k := ?_)
     refine cd (fun c16 => ?_) fun c16 => ?_
     ·try simp only [cnd] at c16
      have hS := j.stop (by omega) (show (pipeU u) j.k = false by simp only [pipeU, rises, pipeOk]; grind only)
      refine go [.R,.a,.Z] (k := ?_)
      refine rt1 2 ?_
      refine rb ?_
      simp only [thingsOk, opensOk_eq, pipesOk_eq, filesOk_eq]
      grind only
     try simp only [cnd] at c16
     refine go [.J,.R1,.m,.b,.N,.a,.Z] (k := ?_)
     refine ⟨⟨j.k + 1, by omega, j.next (show (pipeU u) j.k = true by simp only [pipeU, rises, pipeOk]; grind only)⟩, ws, ?_⟩
     show u.Pipes.length - (j.k + 1) < u.Pipes.length - j.k
     omega
    refine go [.t 17,.m,.t 18,.b,.N,.t 19,.m] (k := ?_)
    refine AWA.split 90 rfl (fun g17 => ?_) (fun g17 => ?_)
    ·refine go [.t 20,.f,.t 21,.l,.N,.t 22,.m,.t 23,.b,.t 24,.i,.N,.t 25,.f,.t 26,.l,.t 27,.f,.N,.t 28,.l,.t 29,.b] (k := ?_)
     refine tg 30 rfl (nF g13) (Qt.pickT rfl g17) ?_
     refine go [.N] (k := ?_)
     refine tk 31 rfl (Qt.pickF rfl g13) ?_
     refine go [.t 32,.m] (k := ?_)
     refine AWA.split 103 rfl (fun g18 => ?_) (fun g18 => ?_)
     ·refine go [.t 33,.x,.N,.t 34,.x,.t 35,.x,.t 37,.x,.N,.t 38,.x,.t 39,.x,.O 36 [37, 38, 39] [35, 33, 32, 34, 31, 19, 30, 16, 18, 29, 15, 13, 17, 28, 26, 14, 10, 12, 27, 25, 9, 4, 11, 24, 8, 3, 2, 23, 21, 7, 1, 22, 20, 6, 0, 5],.x,.N,.g,.x,.g,.x,.g,.x,.N,.O 40 [] [39, 37, 36, 32, 38, 35, 33, 31, 19, 34, 30, 16, 18, 29, 15, 13, 17, 28, 26, 14, 10, 12, 27, 25, 9, 4, 11, 24, 8, 3, 2, 23, 21, 7, 1, 22, 20, 6, 0, 5],.x,.N,.t 41,.x,.t 42,.x] (k := ?_)
      refine tk 43 rfl (Qt.pickT rfl g18) ?_
      refine go [.N,.Z] (k := ?_)
      refine cd (fun c19 => ?_) fun c19 => ?_
      ·try simp only [cnd] at c19
       have hS := j.stop (by omega) (show (pipeU u) j.k = false by simp only [pipeU, rises, pipeOk]; grind only)
       refine go [.R,.a,.Z] (k := ?_)
       refine rt1 2 ?_
       refine rb ?_
       simp only [thingsOk, opensOk_eq, pipesOk_eq, filesOk_eq]
       grind only
      try simp only [cnd] at c19
      refine go [.J,.R1,.m,.b,.N,.a,.Z] (k := ?_)
      refine ⟨⟨j.k + 1, by omega, j.next (show (pipeU u) j.k = true by simp only [pipeU, rises, pipeOk]; grind only)⟩, ws, ?_⟩
      show u.Pipes.length - (j.k + 1) < u.Pipes.length - j.k
      omega
     refine go [.t 33,.G,.t 34,.f,.N,.t 35,.l,.t 37,.G,.t 38,.f,.N,.t 39,.l] (k := ?_)
     refine a1 36 [37, 38, 39] [35, 33, 32, 34, 31, 19, 30, 16, 18, 29, 15, 13, 17, 28, 26, 14, 10, 12, 27, 25, 9, 4, 11, 24, 8, 3, 2, 23, 21, 7, 1, 22, 20, 6, 0, 5] rfl (nF g18) (Stp.callV rfl (by decide) Tryz.call250 rfl rfl (l6Ends_con u _ _ hb)) ?_
     refine go [.N,.g,.G,.g,.f,.g,.l,.N] (k := ?_)
     refine a1 40 [] [39, 37, 36, 32, 38, 35, 33, 31, 19, 34, 30, 16, 18, 29, 15, 13, 17, 28, 26, 14, 10, 12, 27, 25, 9, 4, 11, 24, 8, 3, 2, 23, 21, 7, 1, 22, 20, 6, 0, 5] rfl (nF g18) (Stp.callV rfl (by decide) Tryz.call250 rfl rfl (l6Ends_con u _ _ hb)) ?_
     refine go [.N,.t 41,.b,.t 42,.b] (k := ?_)
     refine tk 43 rfl (Qt.pickF rfl g18) ?_
     refine go [.N,.Z] (k := ?_)
     refine cd (fun c20 => ?_) fun c20 => ?_
     ·try simp only [cnd] at c20
      have hS := j.stop (by omega) (show (pipeU u) j.k = false by simp only [pipeU, rises, pipeOk]; grind only)
      refine go [.R,.a,.Z] (k := ?_)
      refine rt1 2 ?_
      refine rb ?_
      simp only [thingsOk, opensOk_eq, pipesOk_eq, filesOk_eq]
      grind only
     try simp only [cnd] at c20
     refine go [.J,.R1,.m,.b,.N,.a,.Z] (k := ?_)
     refine ⟨⟨j.k + 1, by omega, j.next (show (pipeU u) j.k = true by simp only [pipeU, rises, pipeOk]; grind only)⟩, ws, ?_⟩
     show u.Pipes.length - (j.k + 1) < u.Pipes.length - j.k
     omega
    refine go [.t 20,.x,.t 21,.x,.N,.t 22,.x,.t 23,.x,.t 24,.x,.N,.t 25,.x,.t 26,.x,.t 27,.x,.N,.t 28,.x,.t 29,.x] (k := ?_)
    refine tg 30 rfl (nF g13) (Qt.pickF rfl g17) ?_
    refine go [.N] (k := ?_)
    refine tk 31 rfl (Qt.pickF rfl g13) ?_
    refine go [.t 32,.m] (k := ?_)
    refine AWA.split 103 rfl (fun g21 => ?_) (fun g21 => ?_)
    ·refine go [.t 33,.x,.N,.t 34,.x,.t 35,.x,.t 37,.x,.N,.t 38,.x,.t 39,.x,.O 36 [37, 38, 39] [35, 33, 32, 34, 31, 19, 30, 16, 18, 29, 15, 13, 17, 28, 26, 14, 10, 12, 27, 25, 9, 4, 11, 24, 8, 3, 2, 23, 21, 7, 1, 22, 20, 6, 0, 5],.x,.N,.g,.x,.g,.x,.g,.x,.N,.O 40 [] [39, 37, 36, 32, 38, 35, 33, 31, 19, 34, 30, 16, 18, 29, 15, 13, 17, 28, 26, 14, 10, 12, 27, 25, 9, 4, 11, 24, 8, 3, 2, 23, 21, 7, 1, 22, 20, 6, 0, 5],.x,.N,.t 41,.x,.t 42,.x] (k := ?_)
     refine tk 43 rfl (Qt.pickT rfl g21) ?_
     refine go [.N,.Z] (k := ?_)
     refine cd (fun c22 => ?_) fun c22 => ?_
     ·try simp only [cnd] at c22
      have hS := j.stop (by omega) (show (pipeU u) j.k = false by simp only [pipeU, rises, pipeOk]; grind only)
      refine go [.R,.a,.Z] (k := ?_)
      refine rt1 2 ?_
      refine rb ?_
      simp only [thingsOk, opensOk_eq, pipesOk_eq, filesOk_eq]
      grind only
     try simp only [cnd] at c22
     refine go [.J,.R1,.m,.b,.N,.a,.Z] (k := ?_)
     refine ⟨⟨j.k + 1, by omega, j.next (show (pipeU u) j.k = true by simp only [pipeU, rises, pipeOk]; grind only)⟩, ws, ?_⟩
     show u.Pipes.length - (j.k + 1) < u.Pipes.length - j.k
     omega
    refine go [.t 33,.G,.t 34,.f,.N,.t 35,.l,.t 37,.G,.t 38,.f,.N,.t 39,.l] (k := ?_)
    refine a1 36 [37, 38, 39] [35, 33, 32, 34, 31, 19, 30, 16, 18, 29, 15, 13, 17, 28, 26, 14, 10, 12, 27, 25, 9, 4, 11, 24, 8, 3, 2, 23, 21, 7, 1, 22, 20, 6, 0, 5] rfl (nF g21) (Stp.callV rfl (by decide) Tryz.call250 rfl rfl (l6Ends_con u _ _ hb)) ?_
    refine go [.N,.g,.G,.g,.f,.g,.l,.N] (k := ?_)
    refine a1 40 [] [39, 37, 36, 32, 38, 35, 33, 31, 19, 34, 30, 16, 18, 29, 15, 13, 17, 28, 26, 14, 10, 12, 27, 25, 9, 4, 11, 24, 8, 3, 2, 23, 21, 7, 1, 22, 20, 6, 0, 5] rfl (nF g21) (Stp.callV rfl (by decide) Tryz.call250 rfl rfl (l6Ends_con u _ _ hb)) ?_
    refine go [.N,.t 41,.b,.t 42,.b] (k := ?_)
    refine tk 43 rfl (Qt.pickF rfl g21) ?_
    refine go [.N,.Z] (k := ?_)
    refine cd (fun c23 => ?_) fun c23 => ?_
    ·try simp only [cnd] at c23
     have hS := j.stop (by omega) (show (pipeU u) j.k = false by simp only [pipeU, rises, pipeOk]; grind only)
     refine go [.R,.a,.Z] (k := ?_)
     refine rt1 2 ?_
     refine rb ?_
     simp only [thingsOk, opensOk_eq, pipesOk_eq, filesOk_eq]
     grind only
    try simp only [cnd] at c23
    refine go [.J,.R1,.m,.b,.N,.a,.Z] (k := ?_)
    refine ⟨⟨j.k + 1, by omega, j.next (show (pipeU u) j.k = true by simp only [pipeU, rises, pipeOk]; grind only)⟩, ws, ?_⟩
    show u.Pipes.length - (j.k + 1) < u.Pipes.length - j.k
    omega
   refine go [.t 11,.f,.t 12,.l,.N] (k := ?_)
   refine a1 13 [] [12, 10, 11, 9, 4, 8, 3, 2, 7, 1, 6, 0, 5] rfl (nF g12) (Stp.callV rfl (by decide) Tryz.call137 rfl rfl (l5Words_con _)) ?_
   refine go [.N,.t 14,.n] (k := ?_)
   refine tk 15 rfl (Qt.pickF rfl g12) ?_
   refine go [.t 16,.m,.N] (k := ?_)
   refine AWA.split 87 rfl (fun g24 => ?_) (fun g24 => ?_)
   ·refine go [.t 17,.x,.t 18,.x,.t 19,.x,.N,.t 20,.x,.t 21,.x,.t 22,.x,.N,.t 23,.x,.t 24,.x,.t 25,.x,.N,.t 26,.x,.t 27,.x,.t 28,.x,.N,.t 29,.x,.t 30,.x] (k := ?_)
    refine tk 31 rfl (Qt.pickT rfl g24) ?_
    refine go [.N,.t 32,.m] (k := ?_)
    refine AWA.split 103 rfl (fun g25 => ?_) (fun g25 => ?_)
    ·refine go [.t 33,.x,.t 34,.x,.N,.t 35,.x,.t 37,.x,.t 38,.x,.N,.t 39,.x,.O 36 [37, 38, 39] [35, 33, 32, 34, 31, 19, 30, 16, 18, 29, 15, 13, 17, 28, 26, 14, 10, 12, 27, 25, 9, 4, 11, 24, 8, 3, 2, 23, 21, 7, 1, 22, 20, 6, 0, 5],.x,.N,.g,.x,.g,.x,.g,.x,.N,.O 40 [] [39, 37, 36, 32, 38, 35, 33, 31, 19, 34, 30, 16, 18, 29, 15, 13, 17, 28, 26, 14, 10, 12, 27, 25, 9, 4, 11, 24, 8, 3, 2, 23, 21, 7, 1, 22, 20, 6, 0, 5],.x,.N,.t 41,.x,.t 42,.x] (k := ?_)
     refine tk 43 rfl (Qt.pickT rfl g25) ?_
     refine go [.N,.Z] (k := ?_)
     refine cd (fun c26 => ?_) fun c26 => ?_
     ·try simp only [cnd] at c26
      have hS := j.stop (by omega) (show (pipeU u) j.k = false by simp only [pipeU, rises, pipeOk]; grind only)
      refine go [.R,.a,.Z] (k := ?_)
      refine rt1 2 ?_
      refine rb ?_
      simp only [thingsOk, opensOk_eq, pipesOk_eq, filesOk_eq]
      grind only
     try simp only [cnd] at c26
     refine go [.J,.R1,.m,.b,.N,.a,.Z] (k := ?_)
     refine ⟨⟨j.k + 1, by omega, j.next (show (pipeU u) j.k = true by simp only [pipeU, rises, pipeOk]; grind only)⟩, ws, ?_⟩
     show u.Pipes.length - (j.k + 1) < u.Pipes.length - j.k
     omega
    refine go [.t 33,.G,.t 34,.f,.N,.t 35,.l,.t 37,.G,.t 38,.f,.N,.t 39,.l] (k := ?_)
    refine a1 36 [37, 38, 39] [35, 33, 32, 34, 31, 19, 30, 16, 18, 29, 15, 13, 17, 28, 26, 14, 10, 12, 27, 25, 9, 4, 11, 24, 8, 3, 2, 23, 21, 7, 1, 22, 20, 6, 0, 5] rfl (nF g25) (Stp.callV rfl (by decide) Tryz.call250 rfl rfl (l6Ends_con u _ _ hb)) ?_
    refine go [.N,.g,.G,.g,.f,.g,.l,.N] (k := ?_)
    refine a1 40 [] [39, 37, 36, 32, 38, 35, 33, 31, 19, 34, 30, 16, 18, 29, 15, 13, 17, 28, 26, 14, 10, 12, 27, 25, 9, 4, 11, 24, 8, 3, 2, 23, 21, 7, 1, 22, 20, 6, 0, 5] rfl (nF g25) (Stp.callV rfl (by decide) Tryz.call250 rfl rfl (l6Ends_con u _ _ hb)) ?_
    refine go [.N,.t 41,.b,.t 42,.b] (k := ?_)
    refine tk 43 rfl (Qt.pickF rfl g25) ?_
    refine go [.N,.Z] (k := ?_)
    refine cd (fun c27 => ?_) fun c27 => ?_
    ·try simp only [cnd] at c27
     have hS := j.stop (by omega) (show (pipeU u) j.k = false by simp only [pipeU, rises, pipeOk]; grind only)
     refine go [.R,.a,.Z] (k := ?_)
     refine rt1 2 ?_
     refine rb ?_
     simp only [thingsOk, opensOk_eq, pipesOk_eq, filesOk_eq]
     grind only
    try simp only [cnd] at c27
    refine go [.J,.R1,.m,.b,.N,.a,.Z] (k := ?_)
    refine ⟨⟨j.k + 1, by omega, j.next (show (pipeU u) j.k = true by simp only [pipeU, rises, pipeOk]; grind only)⟩, ws, ?_⟩
    show u.Pipes.length - (j.k + 1) < u.Pipes.length - j.k
    omega
   refine go [.t 17,.m,.t 18,.b,.N,.t 19,.m] (k := ?_)
   refine AWA.split 90 rfl (fun g28 => ?_) (fun g28 => ?_)
   ·refine go [.t 20,.f,.t 21,.l,.N,.t 22,.m,.t 23,.b,.t 24,.i,.N,.t 25,.f,.t 26,.l,.t 27,.f,.N,.t 28,.l,.t 29,.b] (k := ?_)
    refine tg 30 rfl (nF g24) (Qt.pickT rfl g28) ?_
    refine go [.N] (k := ?_)
    refine tk 31 rfl (Qt.pickF rfl g24) ?_
    refine go [.t 32,.m] (k := ?_)
    refine AWA.split 103 rfl (fun g29 => ?_) (fun g29 => ?_)
    ·refine go [.t 33,.x,.N,.t 34,.x,.t 35,.x,.t 37,.x,.N,.t 38,.x,.t 39,.x,.O 36 [37, 38, 39] [35, 33, 32, 34, 31, 19, 30, 16, 18, 29, 15, 13, 17, 28, 26, 14, 10, 12, 27, 25, 9, 4, 11, 24, 8, 3, 2, 23, 21, 7, 1, 22, 20, 6, 0, 5],.x,.N,.g,.x,.g,.x,.g,.x,.N,.O 40 [] [39, 37, 36, 32, 38, 35, 33, 31, 19, 34, 30, 16, 18, 29, 15, 13, 17, 28, 26, 14, 10, 12, 27, 25, 9, 4, 11, 24, 8, 3, 2, 23, 21, 7, 1, 22, 20, 6, 0, 5],.x,.N,.t 41,.x,.t 42,.x] (k := ?_)
     refine tk 43 rfl (Qt.pickT rfl g29) ?_
     refine go [.N,.Z] (k := ?_)
     refine cd (fun c30 => ?_) fun c30 => ?_
     ·try simp only [cnd] at c30
      have hS := j.stop (by omega) (show (pipeU u) j.k = false by simp only [pipeU, rises, pipeOk]; grind only)
      refine go [.R,.a,.Z] (k := ?_)
      refine rt1 2 ?_
      refine rb ?_
      simp only [thingsOk, opensOk_eq, pipesOk_eq, filesOk_eq]
      grind only
     try simp only [cnd] at c30
     refine go [.J,.R1,.m,.b,.N,.a,.Z] (k := ?_)
     refine ⟨⟨j.k + 1, by omega, j.next (show (pipeU u) j.k = true by simp only [pipeU, rises, pipeOk]; grind only)⟩, ws, ?_⟩
     show u.Pipes.length - (j.k + 1) < u.Pipes.length - j.k
     omega
    refine go [.t 33,.G,.t 34,.f,.N,.t 35,.l,.t 37,.G,.t 38,.f,.N,.t 39,.l] (k := ?_)
    refine a1 36 [37, 38, 39] [35, 33, 32, 34, 31, 19, 30, 16, 18, 29, 15, 13, 17, 28, 26, 14, 10, 12, 27, 25, 9, 4, 11, 24, 8, 3, 2, 23, 21, 7, 1, 22, 20, 6, 0, 5] rfl (nF g29) (Stp.callV rfl (by decide) Tryz.call250 rfl rfl (l6Ends_con u _ _ hb)) ?_
    refine go [.N,.g,.G,.g,.f,.g,.l,.N] (k := ?_)
    refine a1 40 [] [39, 37, 36, 32, 38, 35, 33, 31, 19, 34, 30, 16, 18, 29, 15, 13, 17, 28, 26, 14, 10, 12, 27, 25, 9, 4, 11, 24, 8, 3, 2, 23, 21, 7, 1, 22, 20, 6, 0, 5] rfl (nF g29) (Stp.callV rfl (by decide) Tryz.call250 rfl rfl (l6Ends_con u _ _ hb)) ?_
    refine go [.N,.t 41,.b,.t 42,.b] (k := ?_)
    refine tk 43 rfl (Qt.pickF rfl g29) ?_
    refine go [.N,.Z] (k := ?_)
    refine cd (fun c31 => ?_) fun c31 => ?_
    ·try simp only [cnd] at c31
     have hS := j.stop (by omega) (show (pipeU u) j.k = false by simp only [pipeU, rises, pipeOk]; grind only)
     refine go [.R,.a,.Z] (k := ?_)
     refine rt1 2 ?_
     refine rb ?_
     simp only [thingsOk, opensOk_eq, pipesOk_eq, filesOk_eq]
     grind only
    try simp only [cnd] at c31
    refine go [.J,.R1,.m,.b,.N,.a,.Z] (k := ?_)
    refine ⟨⟨j.k + 1, by omega, j.next (show (pipeU u) j.k = true by simp only [pipeU, rises, pipeOk]; grind only)⟩, ws, ?_⟩
    show u.Pipes.length - (j.k + 1) < u.Pipes.length - j.k
    omega
   refine go [.t 20,.x,.t 21,.x,.N,.t 22,.x,.t 23,.x,.t 24,.x,.N,.t 25,.x,.t 26,.x,.t 27,.x,.N,.t 28,.x,.t 29,.x] (k := ?_)
   refine tg 30 rfl (nF g24) (Qt.pickF rfl g28) ?_
   refine go [.N] (k := ?_)
   refine tk 31 rfl (Qt.pickF rfl g24) ?_
   refine go [.t 32,.m] (k := ?_)
   refine AWA.split 103 rfl (fun g32 => ?_) (fun g32 => ?_)
   ·refine go [.t 33,.x,.N,.t 34,.x,.t 35,.x,.t 37,.x,.N,.t 38,.x,.t 39,.x,.O 36 [37, 38, 39] [35, 33, 32, 34, 31, 19, 30, 16, 18, 29, 15, 13, 17, 28, 26, 14, 10, 12, 27, 25, 9, 4, 11, 24, 8, 3, 2, 23, 21, 7, 1, 22, 20, 6, 0, 5],.x,.N,.g,.x,.g,.x,.g,.x,.N,.O 40 [] [39, 37, 36, 32, 38, 35, 33, 31, 19, 34, 30, 16, 18, 29, 15, 13, 17, 28, 26, 14, 10, 12, 27, 25, 9, 4, 11, 24, 8, 3, 2, 23, 21, 7, 1, 22, 20, 6, 0, 5],.x,.N,.t 41,.x,.t 42,.x] (k := ?_)
    refine tk 43 rfl (Qt.pickT rfl g32) ?_
    refine go [.N,.Z] (k := ?_)
    refine cd (fun c33 => ?_) fun c33 => ?_
    ·try simp only [cnd] at c33
     have hS := j.stop (by omega) (show (pipeU u) j.k = false by simp only [pipeU, rises, pipeOk]; grind only)
     refine go [.R,.a,.Z] (k := ?_)
     refine rt1 2 ?_
     refine rb ?_
     simp only [thingsOk, opensOk_eq, pipesOk_eq, filesOk_eq]
     grind only
    try simp only [cnd] at c33
    refine go [.J,.R1,.m,.b,.N,.a,.Z] (k := ?_)
    refine ⟨⟨j.k + 1, by omega, j.next (show (pipeU u) j.k = true by simp only [pipeU, rises, pipeOk]; grind only)⟩, ws, ?_⟩
    show u.Pipes.length - (j.k + 1) < u.Pipes.length - j.k
    omega
   refine go [.t 33,.G,.t 34,.f,.N,.t 35,.l,.t 37,.G,.t 38,.f,.N,.t 39,.l] (k := ?_)
   refine a1 36 [37, 38, 39] [35, 33, 32, 34, 31, 19, 30, 16, 18, 29, 15, 13, 17, 28, 26, 14, 10, 12, 27, 25, 9, 4, 11, 24, 8, 3, 2, 23, 21, 7, 1, 22, 20, 6, 0, 5] rfl (nF g32) (Stp.callV rfl (by decide) Tryz.call250 rfl rfl (l6Ends_con u _ _ hb)) ?_
   refine go [.N,.g,.G,.g,.f,.g,.l,.N] (k := ?_)
   refine a1 40 [] [39, 37, 36, 32, 38, 35, 33, 31, 19, 34, 30, 16, 18, 29, 15, 13, 17, 28, 26, 14, 10, 12, 27, 25, 9, 4, 11, 24, 8, 3, 2, 23, 21, 7, 1, 22, 20, 6, 0, 5] rfl (nF g32) (Stp.callV rfl (by decide) Tryz.call250 rfl rfl (l6Ends_con u _ _ hb)) ?_
   refine go [.N,.t 41,.b,.t 42,.b] (k := ?_)
   refine tk 43 rfl (Qt.pickF rfl g32) ?_
   refine go [.N,.Z] (k := ?_)
   refine cd (fun c34 => ?_) fun c34 => ?_
   ·try simp only [cnd] at c34
    have hS := j.stop (by omega) (show (pipeU u) j.k = false by simp only [pipeU, rises, pipeOk]; grind only)
    refine go [.R,.a,.Z] (k := ?_)
    refine rt1 2 ?_
    refine rb ?_
    simp only [thingsOk, opensOk_eq, pipesOk_eq, filesOk_eq]
    grind only
   try simp only [cnd] at c34
   refine go [.J,.R1,.m,.b,.N,.a,.Z] (k := ?_)
   refine ⟨⟨j.k + 1, by omega, j.next (show (pipeU u) j.k = true by simp only [pipeU, rises, pipeOk]; grind only)⟩, ws, ?_⟩
   show u.Pipes.length - (j.k + 1) < u.Pipes.length - j.k
   omega
  refine go [.t 5,.f,.t 6,.l,.N,.t 7,.h,.t 8,.b] (k := ?_)
  refine tk 9 rfl (Qt.pickF rfl g11) ?_
  refine go [.N,.t 10,.m] (k := ?_)
  refine AWA.split 81 rfl (fun g35 => ?_) (fun g35 => ?_)
  ·refine go [.t 11,.x,.t 12,.x,.N,.O 13 [] [12, 10, 11, 9, 4, 8, 3, 2, 7, 1, 6, 0, 5],.x,.N,.t 14,.x] (k := ?_)
   refine tk 15 rfl (Qt.pickT rfl g35) ?_
   refine go [.t 16,.m,.N] (k := ?_)
   refine AWA.split 87 rfl (fun g36 => ?_) (fun g36 => ?_)
   ·refine go [.t 17,.x,.t 18,.x,.t 19,.x,.N,.t 20,.x,.t 21,.x,.t 22,.x,.N,.t 23,.x,.t 24,.x,.t 25,.x,.N,.t 26,.x,.t 27,.x,.t 28,.x,.N,.t 29,.x,.t 30,.x] (k := ?_)
    refine tk 31 rfl (Qt.pickT rfl g36) ?_
    refine go [.N,.t 32,.m] (k := ?_)
    refine AWA.split 103 rfl (fun g37 => ?_) (fun g37 => ?_)
    ·refine go [.t 33,.x,.t 34,.x,.N,.t 35,.x,.t 37,.x,.t 38,.x,.N,.t 39,.x,.O 36 [37, 38, 39] [35, 33, 32, 34, 31, 19, 30, 16, 18, 29, 15, 13, 17, 28, 26, 14, 10, 12, 27, 25, 9, 4, 11, 24, 8, 3, 2, 23, 21, 7, 1, 22, 20, 6, 0, 5],.x,.N,.g,.x,.g,.x,.g,.x,.N,.O 40 [] [39, 37, 36, 32, 38, 35, 33, 31, 19, 34, 30, 16, 18, 29, 15, 13, 17, 28, 26, 14, 10, 12, 27, 25, 9, 4, 11, 24, 8, 3, 2, 23, 21, 7, 1, 22, 20, 6, 0, 5],.x,.N,.t 41,.x,.t 42,.x] (k := ?_)
     refine tk 43 rfl (Qt.pickT rfl g37) ?_
     refine go [.N,.Z] (k := ?_)
     refine cd (fun c38 => ?_) fun c38 => ?_
     ·try simp only [cnd] at c38
      have hS := j.stop (by omega) (show (pipeU u) j.k = false by simp only [pipeU, rises, pipeOk]; grind only)
      refine go [.R,.a,.Z] (k := ?_)
      refine rt1 2 ?_
      refine rb ?_
      simp only [thingsOk, opensOk_eq, pipesOk_eq, filesOk_eq]
      grind only
     try simp only [cnd] at c38
     refine go [.J,.R1,.m,.b,.N,.a,.Z] (k := ?_)
     refine ⟨⟨j.k + 1, by omega, j.next (show (pipeU u) j.k = true by simp only [pipeU, rises, pipeOk]; grind only)⟩, ws, ?_⟩
     show u.Pipes.length - (j.k + 1) < u.Pipes.length - j.k
     omega
    refine go [.t 33,.G,.t 34,.f,.N,.t 35,.l,.t 37,.G,.t 38,.f,.N,.t 39,.l] (k := ?_)
    refine a1 36 [37, 38, 39] [35, 33, 32, 34, 31, 19, 30, 16, 18, 29, 15, 13, 17, 28, 26, 14, 10, 12, 27, 25, 9, 4, 11, 24, 8, 3, 2, 23, 21, 7, 1, 22, 20, 6, 0, 5] rfl (nF g37) (Stp.callV rfl (by decide) Tryz.call250 rfl rfl (l6Ends_con u _ _ hb)) ?_
    refine go [.N,.g,.G,.g,.f,.g,.l,.N] (k := ?_)
    refine a1 40 [] [39, 37, 36, 32, 38, 35, 33, 31, 19, 34, 30, 16, 18, 29, 15, 13, 17, 28, 26, 14, 10, 12, 27, 25, 9, 4, 11, 24, 8, 3, 2, 23, 21, 7, 1, 22, 20, 6, 0, 5] rfl (nF g37) (Stp.callV rfl (by decide) Tryz.call250 rfl rfl (l6Ends_con u _ _ hb)) ?_
    refine go [.N,.t 41,.b,.t 42,.b] (k := ?_)
    refine tk 43 rfl (Qt.pickF rfl g37) ?_
    refine go [.N,.Z] (k := ?_)
    refine cd (fun c39 => ?_) fun c39 => ?_
    ·try simp only [cnd] at c39
     have hS := j.stop (by omega) (show (pipeU u) j.k = false by simp only [pipeU, rises, pipeOk]; grind only)
     refine go [.R,.a,.Z] (k := ?_)
     refine rt1 2 ?_
     refine rb ?_
     simp only [thingsOk, opensOk_eq, pipesOk_eq, filesOk_eq]
     grind only
    try simp only [cnd] at c39
    refine go [.J,.R1,.m,.b,.N,.a,.Z] (k := ?_)
    refine ⟨⟨j.k + 1, by omega, j.next (show (pipeU u) j.k = true by simp only [pipeU, rises, pipeOk]; grind only)⟩, ws, ?_⟩
    show u.Pipes.length - (j.k + 1) < u.Pipes.length - j.k
    omega
   refine go [.t 17,.m,.t 18,.b,.N,.t 19,.m] (k := ?_)
   refine AWA.split 90 rfl (fun g40 => ?_) (fun g40 => ?_)
   ·refine go [.t 20,.f,.t 21,.l,.N,.t 22,.m,.t 23,.b,.t 24,.i,.N,.t 25,.f,.t 26,.l,.t 27,.f,.N,.t 28,.l,.t 29,.b] (k := ?_)
    refine tg 30 rfl (nF g36) (Qt.pickT rfl g40) ?_
    refine go [.N] (k := ?_)
    refine tk 31 rfl (Qt.pickF rfl g36) ?_
    refine go [.t 32,.m] (k := ?_)
    refine AWA.split 103 rfl (fun g41 => ?_) (fun g41 => ?_)
    ·refine go [.t 33,.x,.N,.t 34,.x,.t 35,.x,.t 37,.x,.N,.t 38,.x,.t 39,.x,.O 36 [37, 38, 39] [35, 33, 32, 34, 31, 19, 30, 16, 18, 29, 15, 13, 17, 28, 26, 14, 10, 12, 27, 25, 9, 4, 11, 24, 8, 3, 2, 23, 21, 7, 1, 22, 20, 6, 0, 5],.x,.N,.g,.x,.g,.x,.g,.x,.N,.O 40 [] [39, 37, 36, 32, 38, 35, 33, 31, 19, 34, 30, 16, 18, 29, 15, 13, 17, 28, 26, 14, 10, 12, 27, 25, 9, 4, 11, 24, 8, 3, 2, 23, 21, 7, 1, 22, 20, 6, 0, 5],.x,.N,.t 41,.x,.t 42,.x] (k := ?_)
     refine tk 43 rfl (Qt.pickT rfl g41) ?_
     refine go [.N,.Z] (k := ?_)
     refine cd (fun c42 => ?_) fun c42 => ?_
     ·try simp only [cnd] at c42
      have hS := j.stop (by omega) (show (pipeU u) j.k = false by simp only [pipeU, rises, pipeOk]; grind only)
      refine go [.R,.a,.Z] (k := ?_)
      refine rt1 2 ?_
      refine rb ?_
      simp only [thingsOk, opensOk_eq, pipesOk_eq, filesOk_eq]
      grind only
     try simp only [cnd] at c42
     refine go [.J,.R1,.m,.b,.N,.a,.Z] (k := ?_)
     refine ⟨⟨j.k + 1, by omega, j.next (show (pipeU u) j.k = true by simp only [pipeU, rises, pipeOk]; grind only)⟩, ws, ?_⟩
     show u.Pipes.length - (j.k + 1) < u.Pipes.length - j.k
     omega
    refine go [.t 33,.G,.t 34,.f,.N,.t 35,.l,.t 37,.G,.t 38,.f,.N,.t 39,.l] (k := ?_)
    refine a1 36 [37, 38, 39] [35, 33, 32, 34, 31, 19, 30, 16, 18, 29, 15, 13, 17, 28, 26, 14, 10, 12, 27, 25, 9, 4, 11, 24, 8, 3, 2, 23, 21, 7, 1, 22, 20, 6, 0, 5] rfl (nF g41) (Stp.callV rfl (by decide) Tryz.call250 rfl rfl (l6Ends_con u _ _ hb)) ?_
    refine go [.N,.g,.G,.g,.f,.g,.l,.N] (k := ?_)
    refine a1 40 [] [39, 37, 36, 32, 38, 35, 33, 31, 19, 34, 30, 16, 18, 29, 15, 13, 17, 28, 26, 14, 10, 12, 27, 25, 9, 4, 11, 24, 8, 3, 2, 23, 21, 7, 1, 22, 20, 6, 0, 5] rfl (nF g41) (Stp.callV rfl (by decide) Tryz.call250 rfl rfl (l6Ends_con u _ _ hb)) ?_
    refine go [.N,.t 41,.b,.t 42,.b] (k := ?_)
    refine tk 43 rfl (Qt.pickF rfl g41) ?_
    refine go [.N,.Z] (k := ?_)
    refine cd (fun c43 => ?_) fun c43 => ?_
    ·try simp only [cnd] at c43
     have hS := j.stop (by omega) (show (pipeU u) j.k = false by simp only [pipeU, rises, pipeOk]; grind only)
     refine go [.R,.a,.Z] (k := ?_)
     refine rt1 2 ?_
     refine rb ?_
     simp only [thingsOk, opensOk_eq, pipesOk_eq, filesOk_eq]
     grind only
    try simp only [cnd] at c43
    refine go [.J,.R1,.m,.b,.N,.a,.Z] (k := ?_)
    refine ⟨⟨j.k + 1, by omega, j.next (show (pipeU u) j.k = true by simp only [pipeU, rises, pipeOk]; grind only)⟩, ws, ?_⟩
    show u.Pipes.length - (j.k + 1) < u.Pipes.length - j.k
    omega
   refine go [.t 20,.x,.t 21,.x,.N,.t 22,.x,.t 23,.x,.t 24,.x,.N,.t 25,.x,.t 26,.x,.t 27,.x,.N,.t 28,.x,.t 29,.x] (k := ?_)
   refine tg 30 rfl (nF g36) (Qt.pickF rfl g40) ?_
   refine go [.N] (k := ?_)
   refine tk 31 rfl (Qt.pickF rfl g36) ?_
   refine go [.t 32,.m] (k := ?_)
   refine AWA.split 103 rfl (fun g44 => ?_) (fun g44 => ?_)
   ·refine go [.t 33,.x,.N,.t 34,.x,.t 35,.x,.t 37,.x,.N,.t 38,.x,.t 39,.x,.O 36 [37, 38, 39] [35, 33, 32, 34, 31, 19, 30, 16, 18, 29, 15, 13, 17, 28, 26, 14, 10, 12, 27, 25, 9, 4, 11, 24, 8, 3, 2, 23, 21, 7, 1, 22, 20, 6, 0, 5],.x,.N,.g,.x,.g,.x,.g,.x,.N,.O 40 [] [39, 37, 36, 32, 38, 35, 33, 31, 19, 34, 30, 16, 18, 29, 15, 13, 17, 28, 26, 14, 10, 12, 27, 25, 9, 4, 11, 24, 8, 3, 2, 23, 21, 7, 1, 22, 20, 6, 0, 5],.x,.N,.t 41,.x,.t 42,.x] (k := ?_)
    refine tk 43 rfl (Qt.pickT rfl g44) ?_
    refine go [.N,.Z] (k := ?_)
    refine cd (fun c45 => ?_) fun c45 => ?_
    ·try simp only [cnd] at c45
     have hS := j.stop (by omega) (show (pipeU u) j.k = false by simp only [pipeU, rises, pipeOk]; grind only)
     refine go [.R,.a,.Z] (k := ?_)
     refine rt1 2 ?_
     refine rb ?_
     simp only [thingsOk, opensOk_eq, pipesOk_eq, filesOk_eq]
     grind only
    try simp only [cnd] at c45
    refine go [.J,.R1,.m,.b,.N,.a,.Z] (k := ?_)
    refine ⟨⟨j.k + 1, by omega, j.next (show (pipeU u) j.k = true by simp only [pipeU, rises, pipeOk]; grind only)⟩, ws, ?_⟩
    show u.Pipes.length - (j.k + 1) < u.Pipes.length - j.k
    omega
   refine go [.t 33,.G,.t 34,.f,.N,.t 35,.l,.t 37,.G,.t 38,.f,.N,.t 39,.l] (k := ?_)
   refine a1 36 [37, 38, 39] [35, 33, 32, 34, 31, 19, 30, 16, 18, 29, 15, 13, 17, 28, 26, 14, 10, 12, 27, 25, 9, 4, 11, 24, 8, 3, 2, 23, 21, 7, 1, 22, 20, 6, 0, 5] rfl (nF g44) (Stp.callV rfl (by decide) Tryz.call250 rfl rfl (l6Ends_con u _ _ hb)) ?_
   refine go [.N,.g,.G,.g,.f,.g,.l,.N] (k := ?_)
   refine a1 40 [] [39, 37, 36, 32, 38, 35, 33, 31, 19, 34, 30, 16, 18, 29, 15, 13, 17, 28, 26, 14, 10, 12, 27, 25, 9, 4, 11, 24, 8, 3, 2, 23, 21, 7, 1, 22, 20, 6, 0, 5] rfl (nF g44) (Stp.callV rfl (by decide) Tryz.call250 rfl rfl (l6Ends_con u _ _ hb)) ?_
   refine go [.N,.t 41,.b,.t 42,.b] (k := ?_)
   refine tk 43 rfl (Qt.pickF rfl g44) ?_
   refine go [.N,.Z] (k := ?_)
   refine cd (fun c46 => ?_) fun c46 => ?_
   ·try simp only [cnd] at c46
    have hS := j.stop (by omega) (show (pipeU u) j.k = false by simp only [pipeU, rises, pipeOk]; grind only)
    refine go [.R,.a,.Z] (k := ?_)
    refine rt1 2 ?_
    refine rb ?_
    simp only [thingsOk, opensOk_eq, pipesOk_eq, filesOk_eq]
    grind only
   try simp only [cnd] at c46
   refine go [.J,.R1,.m,.b,.N,.a,.Z] (k := ?_)
   refine ⟨⟨j.k + 1, by omega, j.next (show (pipeU u) j.k = true by simp only [pipeU, rises, pipeOk]; grind only)⟩, ws, ?_⟩
   show u.Pipes.length - (j.k + 1) < u.Pipes.length - j.k
   omega
  refine go [.t 11,.f,.t 12,.l,.N] (k := ?_)
  refine a1 13 [] [12, 10, 11, 9, 4, 8, 3, 2, 7, 1, 6, 0, 5] rfl (nF g35) (Stp.callV rfl (by decide) Tryz.call137 rfl rfl (l5Words_con _)) ?_
  refine go [.N,.t 14,.n] (k := ?_)
  refine tk 15 rfl (Qt.pickF rfl g35) ?_
  refine go [.t 16,.m,.N] (k := ?_)
  refine AWA.split 87 rfl (fun g47 => ?_) (fun g47 => ?_)
  ·refine go [.t 17,.x,.t 18,.x,.t 19,.x,.N,.t 20,.x,.t 21,.x,.t 22,.x,.N,.t 23,.x,.t 24,.x,.t 25,.x,.N,.t 26,.x,.t 27,.x,.t 28,.x,.N,.t 29,.x,.t 30,.x] (k := ?_)
   refine tk 31 rfl (Qt.pickT rfl g47) ?_
   refine go [.N,.t 32,.m] (k := ?_)
   refine AWA.split 103 rfl (fun g48 => ?_) (fun g48 => ?_)
   ·refine go [.t 33,.x,.t 34,.x,.N,.t 35,.x,.t 37,.x,.t 38,.x,.N,.t 39,.x,.O 36 [37, 38, 39] [35, 33, 32, 34, 31, 19, 30, 16, 18, 29, 15, 13, 17, 28, 26, 14, 10, 12, 27, 25, 9, 4, 11, 24, 8, 3, 2, 23, 21, 7, 1, 22, 20, 6, 0, 5],.x,.N,.g,.x,.g,.x,.g,.x,.N,.O 40 [] [39, 37, 36, 32, 38, 35, 33, 31, 19, 34, 30, 16, 18, 29, 15, 13, 17, 28, 26, 14, 10, 12, 27, 25, 9, 4, 11, 24, 8, 3, 2, 23, 21, 7, 1, 22, 20, 6, 0, 5],.x,.N,.t 41,.x,.t 42,.x] (k := ?_)
    refine tk 43 rfl (Qt.pickT rfl g48) ?_
    refine go [.N,.Z] (k := ?_)
    refine cd (fun c49 => ?_) fun c49 => ?_
    ·try simp only [cnd] at c49
     have hS := j.stop (by omega) (show (pipeU u) j.k = false by simp only [pipeU, rises, pipeOk]; grind only)
     refine go [.R,.a,.Z] (k := ?_)
     refine rt1 2 ?_
     refine rb ?_
     simp only [thingsOk, opensOk_eq, pipesOk_eq, filesOk_eq]
     grind only
    try simp only [cnd] at c49
    refine go [.J,.R1,.m,.b,.N,.a,.Z] (k := ?_)
    refine ⟨⟨j.k + 1, by omega, j.next (show (pipeU u) j.k = true by simp only [pipeU, rises, pipeOk]; grind only)⟩, ws, ?_⟩
    show u.Pipes.length - (j.k + 1) < u.Pipes.length - j.k
    omega
   refine go [.t 33,.G,.t 34,.f,.N,.t 35,.l,.t 37,.G,.t 38,.f,.N,.t 39,.l] (k := ?_)
   refine a1 36 [37, 38, 39] [35, 33, 32, 34, 31, 19, 30, 16, 18, 29, 15, 13, 17, 28, 26, 14, 10, 12, 27, 25, 9, 4, 11, 24, 8, 3, 2, 23, 21, 7, 1, 22, 20, 6, 0, 5] rfl (nF g48) (Stp.callV rfl (by decide) Tryz.call250 rfl rfl (l6Ends_con u _ _ hb)) ?_
   refine go [.N,.g,.G,.g,.f,.g,.l,.N] (k := ?_)
   refine a1 40 [] [39, 37, 36, 32, 38, 35, 33, 31, 19, 34, 30, 16, 18, 29, 15, 13, 17, 28, 26, 14, 10, 12, 27, 25, 9, 4, 11, 24, 8, 3, 2, 23, 21, 7, 1, 22, 20, 6, 0, 5] rfl (nF g48) (Stp.callV rfl (by decide) Tryz.call250 rfl rfl (l6Ends_con u _ _ hb)) ?_
   refine go [.N,.t 41,.b,.t 42,.b] (k := ?_)
   refine tk 43 rfl (Qt.pickF rfl g48) ?_
   refine go [.N,.Z] (k := ?_)
   refine cd (fun c50 => ?_) fun c50 => ?_
   ·try simp only [cnd] at c50
    have hS := j.stop (by omega) (show (pipeU u) j.k = false by simp only [pipeU, rises, pipeOk]; grind only)
    refine go [.R,.a,.Z] (k := ?_)
    refine rt1 2 ?_
    refine rb ?_
    simp only [thingsOk, opensOk_eq, pipesOk_eq, filesOk_eq]
    grind only
   try simp only [cnd] at c50
   refine go [.J,.R1,.m,.b,.N,.a,.Z] (k := ?_)
   refine ⟨⟨j.k + 1, by omega, j.next (show (pipeU u) j.k = true by simp only [pipeU, rises, pipeOk]; grind only)⟩, ws, ?_⟩
   show u.Pipes.length - (j.k + 1) < u.Pipes.length - j.k
   omega
  refine go [.t 17,.m,.t 18,.b,.N,.t 19,.m] (k := ?_)
  refine AWA.split 90 rfl (fun g51 => ?_) (fun g51 => ?_)
  ·refine go [.t 20,.f,.t 21,.l,.N,.t 22,.m,.t 23,.b,.t 24,.i,.N,.t 25,.f,.t 26,.l,.t 27,.f,.N,.t 28,.l,.t 29,.b] (k := ?_)
   refine tg 30 rfl (nF g47) (Qt.pickT rfl g51) ?_
   refine go [.N] (k := ?_)
   refine tk 31 rfl (Qt.pickF rfl g47) ?_
   refine go [.t 32,.m] (k := ?_)
   refine AWA.split 103 rfl (fun g52 => ?_) (fun g52 => ?_)
   ·refine go [.t 33,.x,.N,.t 34,.x,.t 35,.x,.t 37,.x,.N,.t 38,.x,.t 39,.x,.O 36 [37, 38, 39] [35, 33, 32, 34, 31, 19, 30, 16, 18, 29, 15, 13, 17, 28, 26, 14, 10, 12, 27, 25, 9, 4, 11, 24, 8, 3, 2, 23, 21, 7, 1, 22, 20, 6, 0, 5],.x,.N,.g,.x,.g,.x,.g,.x,.N,.O 40 [] [39, 37, 36, 32, 38, 35, 33, 31, 19, 34, 30, 16, 18, 29, 15, 13, 17, 28, 26, 14, 10, 12, 27, 25, 9, 4, 11, 24, 8, 3, 2, 23, 21, 7, 1, 22, 20, 6, 0, 5],.x,.N,.t 41,.x,.t 42,.x] (k := ?_)
    refine tk 43 rfl (Qt.pickT rfl g52) ?_
    refine go [.N,.Z] (k := ?_)
    refine cd (fun c53 => ?_) fun c53 => ?_
    ·try simp only [cnd] at c53
     have hS := j.stop (by omega) (show (pipeU u) j.k = false by simp only [pipeU, rises, pipeOk]; grind only)
     refine go [.R,.a,.Z] (k := ?_)
     refine rt1 2 ?_
     refine rb ?_
     simp only [thingsOk, opensOk_eq, pipesOk_eq, filesOk_eq]
     grind only
    try simp only [cnd] at c53
    refine go [.J,.R1,.m,.b,.N,.a,.Z] (k := ?_)
    refine ⟨⟨j.k + 1, by omega, j.next (show (pipeU u) j.k = true by simp only [pipeU, rises, pipeOk]; grind only)⟩, ws, ?_⟩
    show u.Pipes.length - (j.k + 1) < u.Pipes.length - j.k
    omega
   refine go [.t 33,.G,.t 34,.f,.N,.t 35,.l,.t 37,.G,.t 38,.f,.N,.t 39,.l] (k := ?_)
   refine a1 36 [37, 38, 39] [35, 33, 32, 34, 31, 19, 30, 16, 18, 29, 15, 13, 17, 28, 26, 14, 10, 12, 27, 25, 9, 4, 11, 24, 8, 3, 2, 23, 21, 7, 1, 22, 20, 6, 0, 5] rfl (nF g52) (Stp.callV rfl (by decide) Tryz.call250 rfl rfl (l6Ends_con u _ _ hb)) ?_
   refine go [.N,.g,.G,.g,.f,.g,.l,.N] (k := ?_)
   refine a1 40 [] [39, 37, 36, 32, 38, 35, 33, 31, 19, 34, 30, 16, 18, 29, 15, 13, 17, 28, 26, 14, 10, 12, 27, 25, 9, 4, 11, 24, 8, 3, 2, 23, 21, 7, 1, 22, 20, 6, 0, 5] rfl (nF g52) (Stp.callV rfl (by decide) Tryz.call250 rfl rfl (l6Ends_con u _ _ hb)) ?_
   refine go [.N,.t 41,.b,.t 42,.b] (k := ?_)
   refine tk 43 rfl (Qt.pickF rfl g52) ?_
   refine go [.N,.Z] (k := ?_)
   refine cd (fun c54 => ?_) fun c54 => ?_
   ·try simp only [cnd] at c54
    have hS := j.stop (by omega) (show (pipeU u) j.k = false by simp only [pipeU, rises, pipeOk]; grind only)
    refine go [.R,.a,.Z] (k := ?_)
    refine rt1 2 ?_
    refine rb ?_
    simp only [thingsOk, opensOk_eq, pipesOk_eq, filesOk_eq]
    grind only
   try simp only [cnd] at c54
   refine go [.J,.R1,.m,.b,.N,.a,.Z] (k := ?_)
   refine ⟨⟨j.k + 1, by omega, j.next (show (pipeU u) j.k = true by simp only [pipeU, rises, pipeOk]; grind only)⟩, ws, ?_⟩
   show u.Pipes.length - (j.k + 1) < u.Pipes.length - j.k
   omega
  refine go [.t 20,.x,.t 21,.x,.N,.t 22,.x,.t 23,.x,.t 24,.x,.N,.t 25,.x,.t 26,.x,.t 27,.x,.N,.t 28,.x,.t 29,.x] (k := ?_)
  refine tg 30 rfl (nF g47) (Qt.pickF rfl g51) ?_
  refine go [.N] (k := ?_)
  refine tk 31 rfl (Qt.pickF rfl g47) ?_
  refine go [.t 32,.m] (k := ?_)
  refine AWA.split 103 rfl (fun g55 => ?_) (fun g55 => ?_)
  ·refine go [.t 33,.x,.N,.t 34,.x,.t 35,.x,.t 37,.x,.N,.t 38,.x,.t 39,.x,.O 36 [37, 38, 39] [35, 33, 32, 34, 31, 19, 30, 16, 18, 29, 15, 13, 17, 28, 26, 14, 10, 12, 27, 25, 9, 4, 11, 24, 8, 3, 2, 23, 21, 7, 1, 22, 20, 6, 0, 5],.x,.N,.g,.x,.g,.x,.g,.x,.N,.O 40 [] [39, 37, 36, 32, 38, 35, 33, 31, 19, 34, 30, 16, 18, 29, 15, 13, 17, 28, 26, 14, 10, 12, 27, 25, 9, 4, 11, 24, 8, 3, 2, 23, 21, 7, 1, 22, 20, 6, 0, 5],.x,.N,.t 41,.x,.t 42,.x] (k := ?_)
   refine tk 43 rfl (Qt.pickT rfl g55) ?_
   refine go [.N,.Z] (k := ?_)
   refine cd (fun c56 => ?_) fun c56 => ?_
   ·try simp only [cnd] at c56
    have hS := j.stop (by omega) (show (pipeU u) j.k = false by simp only [pipeU, rises, pipeOk]; grind only)
    refine go [.R,.a,.Z] (k := ?_)
    refine rt1 2 ?_
    refine rb ?_
    simp only [thingsOk, opensOk_eq, pipesOk_eq, filesOk_eq]
    grind only
   try simp only [cnd] at c56
   refine go [.J,.R1,.m,.b,.N,.a,.Z] (k := ?_)
   refine ⟨⟨j.k + 1, by omega, j.next (show (pipeU u) j.k = true by simp only [pipeU, rises, pipeOk]; grind only)⟩, ws, ?_⟩
   show u.Pipes.length - (j.k + 1) < u.Pipes.length - j.k
   omega
  refine go [.t 33,.G,.t 34,.f,.N,.t 35,.l,.t 37,.G,.t 38,.f,.N,.t 39,.l] (k := ?_)
  refine a1 36 [37, 38, 39] [35, 33, 32, 34, 31, 19, 30, 16, 18, 29, 15, 13, 17, 28, 26, 14, 10, 12, 27, 25, 9, 4, 11, 24, 8, 3, 2, 23, 21, 7, 1, 22, 20, 6, 0, 5] rfl (nF g55) (Stp.callV rfl (by decide) Tryz.call250 rfl rfl (l6Ends_con u _ _ hb)) ?_
  refine go [.N,.g,.G,.g,.f,.g,.l,.N] (k := ?_)
  refine a1 40 [] [39, 37, 36, 32, 38, 35, 33, 31, 19, 34, 30, 16, 18, 29, 15, 13, 17, 28, 26, 14, 10, 12, 27, 25, 9, 4, 11, 24, 8, 3, 2, 23, 21, 7, 1, 22, 20, 6, 0, 5] rfl (nF g55) (Stp.callV rfl (by decide) Tryz.call250 rfl rfl (l6Ends_con u _ _ hb)) ?_
  refine go [.N,.t 41,.b,.t 42,.b] (k := ?_)
  refine tk 43 rfl (Qt.pickF rfl g55) ?_
  refine go [.N,.Z] (k := ?_)
  refine cd (fun c57 => ?_) fun c57 => ?_
  ·try simp only [cnd] at c57
   have hS := j.stop (by omega) (show (pipeU u) j.k = false by simp only [pipeU, rises, pipeOk]; grind only)
   refine go [.R,.a,.Z] (k := ?_)
   refine rt1 2 ?_
   refine rb ?_
   simp only [thingsOk, opensOk_eq, pipesOk_eq, filesOk_eq]
   grind only
  try simp only [cnd] at c57
  refine go [.J,.R1,.m,.b,.N,.a,.Z] (k := ?_)
  refine ⟨⟨j.k + 1, by omega, j.next (show (pipeU u) j.k = true by simp only [pipeU, rises, pipeOk]; grind only)⟩, ws, ?_⟩
  show u.Pipes.length - (j.k + 1) < u.Pipes.length - j.k
  omega
 try simp only [cnd] at c10
 have hB := j.full (by omega)
 refine AW.exit ?_
 dsimp only [thenQ, blockQ, reduceIte]
 refine go [.R2,.a,.Z] (k := ?_)
 refine AW.block ?_
 refine AW.loopW (fun m : AIx (fileU u.Files) u.Files.length => [.sl 6 (.v (iv m.k)), .rt 1 .box (T.s 9 1 fun k c => ([(T.v (iv u.Next), none), (T.v (iv u.Tick), none), (T.j, none), (T.j, none), (T.j, none), (T.j, none), (T.j, none), (T.j, none), (T.j, none)].getD (k * 9 + c) (T.j, none)).fst), .al 1 2 (.h base []), .al 1 3 (.h (base + 1) []), .al 1 4 (.h (base + 2) []), .al 1 5 (.h (base + 3) []), .al 1 6 (.h (base + 4) []), .al 1 7 (.h (base + 5) []), .al 1 8 (.h (base + 6) []), .rt base .ro (tr u.Progs), .rt (base + 1) .ro (tr u.Procs), .rt (base + 2) .ro (tr u.Opens), .rt (base + 3) .ro (tr u.Pipes), .rt (base + 4) .ro (tr u.Files), .rt (base + 5) .ro (tr u.Ready), .rt (base + 6) .ro (tr u.Out), .sl 1 (.p 1 [] 9 0 0)]) (fun m => u.Files.length - m.k) ⟨0, Nat.zero_le _, fun _ h => absurd h (Nat.not_lt_zero _)⟩ (ws) ?_
 intro m
 have hlem := m.le
 have hTm : ((m.k : Int) - 1).toNat = m.k - 1 := by omega
 refine go [.R2,.m,.N,.f,.l,.h,.N,.b,.Z] (k := ?_)
 refine cd (fun c58 => ?_) fun c58 => ?_
 ·try simp only [cnd] at c58
  refine jd (AW.seq (AW.block (sr ?_)))
  refine go [.f,.l,.N,.m,.i,.G,.N,.A,.N,.s,.Z] (k := ?_)
  refine AW.seq ?_
  refine go [.D [0, 1, 3, 4, 5, 6, 7, 8, 9, 10, 11, 12, 14, 15, 16, 17, 18, 19, 20, 21, 22, 23, 24, 25, 26, 27, 28, 29, 30, 31],.t 0,.f,.N,.t 1,.l] (k := ?_)
  refine a1 2 [] [1, 0] rfl rfl (Stp.callV rfl (by decide) Tryz.call135 rfl rfl (l1InU_con _ _ _)) ?_
  refine go [.N,.t 3,.n,.t 4,.m] (k := ?_)
  refine AWA.split 131 rfl (fun g59 => ?_) (fun g59 => ?_)
  ·refine go [.t 5,.x,.N,.t 6,.x,.t 7,.x,.t 8,.x,.N] (k := ?_)
   refine tk 9 rfl (Qt.pickT rfl g59) ?_
   refine go [.t 10,.m] (k := ?_)
   refine AWA.split 137 rfl (fun g60 => ?_) (fun g60 => ?_)
   ·refine go [.t 11,.x,.N,.t 12,.x,.O 13 [] [12, 10, 11, 9, 4, 8, 3, 2, 7, 1, 6, 0, 5],.x,.N,.t 14,.x] (k := ?_)
    refine tk 15 rfl (Qt.pickT rfl g60) ?_
    refine go [.t 16,.m,.N] (k := ?_)
    refine AWA.split 143 rfl (fun g61 => ?_) (fun g61 => ?_)
    ·refine go [.t 17,.x,.t 18,.x,.t 19,.x,.N,.t 20,.x,.t 21,.x,.t 22,.x,.N,.t 23,.x,.t 24,.x,.t 25,.x,.N,.t 26,.x,.t 27,.x,.t 28,.x,.N,.t 29,.x,.t 30,.x] (k := ?_)
     refine tk 31 rfl (Qt.pickT rfl g61) ?_
     refine go [.N,.Z] (k := ?_)
     refine cd (fun c62 => ?_) fun c62 => ?_
     ·try simp only [cnd] at c62
      have hS := m.stop (by omega) (show (fileU u.Files) m.k = false by simp only [fileU, rises, fileOk]; grind only)
      refine go [.R,.a,.Z] (k := ?_)
      refine rt1 2 ?_
      refine rb ?_
      simp only [thingsOk, opensOk_eq, pipesOk_eq, filesOk_eq]
      grind only
     try simp only [cnd] at c62
     refine go [.J,.R1,.m,.b,.N,.a,.Z] (k := ?_)
     refine ⟨⟨m.k + 1, by omega, m.next (show (fileU u.Files) m.k = true by simp only [fileU, rises, fileOk]; grind only)⟩, ws, ?_⟩
     show u.Files.length - (m.k + 1) < u.Files.length - m.k
     omega
    refine go [.t 17,.m,.t 18,.b,.N,.t 19,.m] (k := ?_)
    refine AWA.split 146 rfl (fun g63 => ?_) (fun g63 => ?_)
    ·refine go [.t 20,.f,.t 21,.l,.N,.t 22,.m,.t 23,.b,.t 24,.i,.N,.t 25,.f,.t 26,.l,.t 27,.f,.N,.t 28,.l,.t 29,.b] (k := ?_)
     refine tg 30 rfl (nF g61) (Qt.pickT rfl g63) ?_
     refine go [.N] (k := ?_)
     refine tk 31 rfl (Qt.pickF rfl g61) ?_
     refine go [.Z] (k := ?_)
     refine cd (fun c64 => ?_) fun c64 => ?_
     ·try simp only [cnd] at c64
      have hS := m.stop (by omega) (show (fileU u.Files) m.k = false by simp only [fileU, rises, fileOk]; grind only)
      refine go [.R,.a,.Z] (k := ?_)
      refine rt1 2 ?_
      refine rb ?_
      simp only [thingsOk, opensOk_eq, pipesOk_eq, filesOk_eq]
      grind only
     try simp only [cnd] at c64
     refine go [.J,.R1,.m,.N,.b,.a,.Z] (k := ?_)
     refine ⟨⟨m.k + 1, by omega, m.next (show (fileU u.Files) m.k = true by simp only [fileU, rises, fileOk]; grind only)⟩, ws, ?_⟩
     show u.Files.length - (m.k + 1) < u.Files.length - m.k
     omega
    refine go [.t 20,.x,.N,.t 21,.x,.t 22,.x,.t 23,.x,.N,.t 24,.x,.t 25,.x,.t 26,.x,.N,.t 27,.x,.t 28,.x,.t 29,.x,.N] (k := ?_)
    refine tg 30 rfl (nF g61) (Qt.pickF rfl g63) ?_
    refine tk 31 rfl (Qt.pickF rfl g61) ?_
    refine go [.Z] (k := ?_)
    refine cd (fun c65 => ?_) fun c65 => ?_
    ·try simp only [cnd] at c65
     have hS := m.stop (by omega) (show (fileU u.Files) m.k = false by simp only [fileU, rises, fileOk]; grind only)
     refine go [.R,.a,.Z] (k := ?_)
     refine rt1 2 ?_
     refine rb ?_
     simp only [thingsOk, opensOk_eq, pipesOk_eq, filesOk_eq]
     grind only
    try simp only [cnd] at c65
    refine go [.J,.R1,.m,.N,.b,.a,.Z] (k := ?_)
    refine ⟨⟨m.k + 1, by omega, m.next (show (fileU u.Files) m.k = true by simp only [fileU, rises, fileOk]; grind only)⟩, ws, ?_⟩
    show u.Files.length - (m.k + 1) < u.Files.length - m.k
    omega
   refine go [.t 11,.f,.N,.t 12,.l] (k := ?_)
   refine a1 13 [] [12, 10, 11, 9, 4, 8, 3, 2, 7, 1, 6, 0, 5] rfl (nF g60) (Stp.callV rfl (by decide) Tryz.call137 rfl rfl (l5Words_con _)) ?_
   refine go [.N,.t 14,.n] (k := ?_)
   refine tk 15 rfl (Qt.pickF rfl g60) ?_
   refine go [.t 16,.m,.N] (k := ?_)
   refine AWA.split 143 rfl (fun g66 => ?_) (fun g66 => ?_)
   ·refine go [.t 17,.x,.t 18,.x,.t 19,.x,.N,.t 20,.x,.t 21,.x,.t 22,.x,.N,.t 23,.x,.t 24,.x,.t 25,.x,.N,.t 26,.x,.t 27,.x,.t 28,.x,.N,.t 29,.x,.t 30,.x] (k := ?_)
    refine tk 31 rfl (Qt.pickT rfl g66) ?_
    refine go [.N,.Z] (k := ?_)
    refine cd (fun c67 => ?_) fun c67 => ?_
    ·try simp only [cnd] at c67
     have hS := m.stop (by omega) (show (fileU u.Files) m.k = false by simp only [fileU, rises, fileOk]; grind only)
     refine go [.R,.a,.Z] (k := ?_)
     refine rt1 2 ?_
     refine rb ?_
     simp only [thingsOk, opensOk_eq, pipesOk_eq, filesOk_eq]
     grind only
    try simp only [cnd] at c67
    refine go [.J,.R1,.m,.b,.N,.a,.Z] (k := ?_)
    refine ⟨⟨m.k + 1, by omega, m.next (show (fileU u.Files) m.k = true by simp only [fileU, rises, fileOk]; grind only)⟩, ws, ?_⟩
    show u.Files.length - (m.k + 1) < u.Files.length - m.k
    omega
   refine go [.t 17,.m,.t 18,.b,.N,.t 19,.m] (k := ?_)
   refine AWA.split 146 rfl (fun g68 => ?_) (fun g68 => ?_)
   ·refine go [.t 20,.f,.t 21,.l,.N,.t 22,.m,.t 23,.b,.t 24,.i,.N,.t 25,.f,.t 26,.l,.t 27,.f,.N,.t 28,.l,.t 29,.b] (k := ?_)
    refine tg 30 rfl (nF g66) (Qt.pickT rfl g68) ?_
    refine go [.N] (k := ?_)
    refine tk 31 rfl (Qt.pickF rfl g66) ?_
    refine go [.Z] (k := ?_)
    refine cd (fun c69 => ?_) fun c69 => ?_
    ·try simp only [cnd] at c69
     have hS := m.stop (by omega) (show (fileU u.Files) m.k = false by simp only [fileU, rises, fileOk]; grind only)
     refine go [.R,.a,.Z] (k := ?_)
     refine rt1 2 ?_
     refine rb ?_
     simp only [thingsOk, opensOk_eq, pipesOk_eq, filesOk_eq]
     grind only
    try simp only [cnd] at c69
    refine go [.J,.R1,.m,.N,.b,.a,.Z] (k := ?_)
    refine ⟨⟨m.k + 1, by omega, m.next (show (fileU u.Files) m.k = true by simp only [fileU, rises, fileOk]; grind only)⟩, ws, ?_⟩
    show u.Files.length - (m.k + 1) < u.Files.length - m.k
    omega
   refine go [.t 20,.x,.N,.t 21,.x,.t 22,.x,.t 23,.x,.N,.t 24,.x,.t 25,.x,.t 26,.x,.N,.t 27,.x,.t 28,.x,.t 29,.x,.N] (k := ?_)
   refine tg 30 rfl (nF g66) (Qt.pickF rfl g68) ?_
   refine tk 31 rfl (Qt.pickF rfl g66) ?_
   refine go [.Z] (k := ?_)
   refine cd (fun c70 => ?_) fun c70 => ?_
   ·try simp only [cnd] at c70
    have hS := m.stop (by omega) (show (fileU u.Files) m.k = false by simp only [fileU, rises, fileOk]; grind only)
    refine go [.R,.a,.Z] (k := ?_)
    refine rt1 2 ?_
    refine rb ?_
    simp only [thingsOk, opensOk_eq, pipesOk_eq, filesOk_eq]
    grind only
   try simp only [cnd] at c70
   refine go [.J,.R1,.m,.N,.b,.a,.Z] (k := ?_)
   refine ⟨⟨m.k + 1, by omega, m.next (show (fileU u.Files) m.k = true by simp only [fileU, rises, fileOk]; grind only)⟩, ws, ?_⟩
   show u.Files.length - (m.k + 1) < u.Files.length - m.k
   omega
  refine go [.t 5,.f,.N,.t 6,.l,.t 7,.h,.t 8,.b,.N] (k := ?_)
  refine tk 9 rfl (Qt.pickF rfl g59) ?_
  refine go [.t 10,.m] (k := ?_)
  refine AWA.split 137 rfl (fun g71 => ?_) (fun g71 => ?_)
  ·refine go [.t 11,.x,.N,.t 12,.x,.O 13 [] [12, 10, 11, 9, 4, 8, 3, 2, 7, 1, 6, 0, 5],.x,.N,.t 14,.x] (k := ?_)
   refine tk 15 rfl (Qt.pickT rfl g71) ?_
   refine go [.t 16,.m,.N] (k := ?_)
   refine AWA.split 143 rfl (fun g72 => ?_) (fun g72 => ?_)
   ·refine go [.t 17,.x,.t 18,.x,.t 19,.x,.N,.t 20,.x,.t 21,.x,.t 22,.x,.N,.t 23,.x,.t 24,.x,.t 25,.x,.N,.t 26,.x,.t 27,.x,.t 28,.x,.N,.t 29,.x,.t 30,.x] (k := ?_)
    refine tk 31 rfl (Qt.pickT rfl g72) ?_
    refine go [.N,.Z] (k := ?_)
    refine cd (fun c73 => ?_) fun c73 => ?_
    ·try simp only [cnd] at c73
     have hS := m.stop (by omega) (show (fileU u.Files) m.k = false by simp only [fileU, rises, fileOk]; grind only)
     refine go [.R,.a,.Z] (k := ?_)
     refine rt1 2 ?_
     refine rb ?_
     simp only [thingsOk, opensOk_eq, pipesOk_eq, filesOk_eq]
     grind only
    try simp only [cnd] at c73
    refine go [.J,.R1,.m,.b,.N,.a,.Z] (k := ?_)
    refine ⟨⟨m.k + 1, by omega, m.next (show (fileU u.Files) m.k = true by simp only [fileU, rises, fileOk]; grind only)⟩, ws, ?_⟩
    show u.Files.length - (m.k + 1) < u.Files.length - m.k
    omega
   refine go [.t 17,.m,.t 18,.b,.N,.t 19,.m] (k := ?_)
   refine AWA.split 146 rfl (fun g74 => ?_) (fun g74 => ?_)
   ·refine go [.t 20,.f,.t 21,.l,.N,.t 22,.m,.t 23,.b,.t 24,.i,.N,.t 25,.f,.t 26,.l,.t 27,.f,.N,.t 28,.l,.t 29,.b] (k := ?_)
    refine tg 30 rfl (nF g72) (Qt.pickT rfl g74) ?_
    refine go [.N] (k := ?_)
    refine tk 31 rfl (Qt.pickF rfl g72) ?_
    refine go [.Z] (k := ?_)
    refine cd (fun c75 => ?_) fun c75 => ?_
    ·try simp only [cnd] at c75
     have hS := m.stop (by omega) (show (fileU u.Files) m.k = false by simp only [fileU, rises, fileOk]; grind only)
     refine go [.R,.a,.Z] (k := ?_)
     refine rt1 2 ?_
     refine rb ?_
     simp only [thingsOk, opensOk_eq, pipesOk_eq, filesOk_eq]
     grind only
    try simp only [cnd] at c75
    refine go [.J,.R1,.m,.N,.b,.a,.Z] (k := ?_)
    refine ⟨⟨m.k + 1, by omega, m.next (show (fileU u.Files) m.k = true by simp only [fileU, rises, fileOk]; grind only)⟩, ws, ?_⟩
    show u.Files.length - (m.k + 1) < u.Files.length - m.k
    omega
   refine go [.t 20,.x,.N,.t 21,.x,.t 22,.x,.t 23,.x,.N,.t 24,.x,.t 25,.x,.t 26,.x,.N,.t 27,.x,.t 28,.x,.t 29,.x,.N] (k := ?_)
   refine tg 30 rfl (nF g72) (Qt.pickF rfl g74) ?_
   refine tk 31 rfl (Qt.pickF rfl g72) ?_
   refine go [.Z] (k := ?_)
   refine cd (fun c76 => ?_) fun c76 => ?_
   ·try simp only [cnd] at c76
    have hS := m.stop (by omega) (show (fileU u.Files) m.k = false by simp only [fileU, rises, fileOk]; grind only)
    refine go [.R,.a,.Z] (k := ?_)
    refine rt1 2 ?_
    refine rb ?_
    simp only [thingsOk, opensOk_eq, pipesOk_eq, filesOk_eq]
    grind only
   try simp only [cnd] at c76
   refine go [.J,.R1,.m,.N,.b,.a,.Z] (k := ?_)
   refine ⟨⟨m.k + 1, by omega, m.next (show (fileU u.Files) m.k = true by simp only [fileU, rises, fileOk]; grind only)⟩, ws, ?_⟩
   show u.Files.length - (m.k + 1) < u.Files.length - m.k
   omega
  refine go [.t 11,.f,.N,.t 12,.l] (k := ?_)
  refine a1 13 [] [12, 10, 11, 9, 4, 8, 3, 2, 7, 1, 6, 0, 5] rfl (nF g71) (Stp.callV rfl (by decide) Tryz.call137 rfl rfl (l5Words_con _)) ?_
  refine go [.N,.t 14,.n] (k := ?_)
  refine tk 15 rfl (Qt.pickF rfl g71) ?_
  refine go [.t 16,.m,.N] (k := ?_)
  refine AWA.split 143 rfl (fun g77 => ?_) (fun g77 => ?_)
  ·refine go [.t 17,.x,.t 18,.x,.t 19,.x,.N,.t 20,.x,.t 21,.x,.t 22,.x,.N,.t 23,.x,.t 24,.x,.t 25,.x,.N,.t 26,.x,.t 27,.x,.t 28,.x,.N,.t 29,.x,.t 30,.x] (k := ?_)
   refine tk 31 rfl (Qt.pickT rfl g77) ?_
   refine go [.N,.Z] (k := ?_)
   refine cd (fun c78 => ?_) fun c78 => ?_
   ·try simp only [cnd] at c78
    have hS := m.stop (by omega) (show (fileU u.Files) m.k = false by simp only [fileU, rises, fileOk]; grind only)
    refine go [.R,.a,.Z] (k := ?_)
    refine rt1 2 ?_
    refine rb ?_
    simp only [thingsOk, opensOk_eq, pipesOk_eq, filesOk_eq]
    grind only
   try simp only [cnd] at c78
   refine go [.J,.R1,.m,.b,.N,.a,.Z] (k := ?_)
   refine ⟨⟨m.k + 1, by omega, m.next (show (fileU u.Files) m.k = true by simp only [fileU, rises, fileOk]; grind only)⟩, ws, ?_⟩
   show u.Files.length - (m.k + 1) < u.Files.length - m.k
   omega
  refine go [.t 17,.m,.t 18,.b,.N,.t 19,.m] (k := ?_)
  refine AWA.split 146 rfl (fun g79 => ?_) (fun g79 => ?_)
  ·refine go [.t 20,.f,.t 21,.l,.N,.t 22,.m,.t 23,.b,.t 24,.i,.N,.t 25,.f,.t 26,.l,.t 27,.f,.N,.t 28,.l,.t 29,.b] (k := ?_)
   refine tg 30 rfl (nF g77) (Qt.pickT rfl g79) ?_
   refine go [.N] (k := ?_)
   refine tk 31 rfl (Qt.pickF rfl g77) ?_
   refine go [.Z] (k := ?_)
   refine cd (fun c80 => ?_) fun c80 => ?_
   ·try simp only [cnd] at c80
    have hS := m.stop (by omega) (show (fileU u.Files) m.k = false by simp only [fileU, rises, fileOk]; grind only)
    refine go [.R,.a,.Z] (k := ?_)
    refine rt1 2 ?_
    refine rb ?_
    simp only [thingsOk, opensOk_eq, pipesOk_eq, filesOk_eq]
    grind only
   try simp only [cnd] at c80
   refine go [.J,.R1,.m,.N,.b,.a,.Z] (k := ?_)
   refine ⟨⟨m.k + 1, by omega, m.next (show (fileU u.Files) m.k = true by simp only [fileU, rises, fileOk]; grind only)⟩, ws, ?_⟩
   show u.Files.length - (m.k + 1) < u.Files.length - m.k
   omega
  refine go [.t 20,.x,.N,.t 21,.x,.t 22,.x,.t 23,.x,.N,.t 24,.x,.t 25,.x,.t 26,.x,.N,.t 27,.x,.t 28,.x,.t 29,.x,.N] (k := ?_)
  refine tg 30 rfl (nF g77) (Qt.pickF rfl g79) ?_
  refine tk 31 rfl (Qt.pickF rfl g77) ?_
  refine go [.Z] (k := ?_)
  refine cd (fun c81 => ?_) fun c81 => ?_
  ·try simp only [cnd] at c81
   have hS := m.stop (by omega) (show (fileU u.Files) m.k = false by simp only [fileU, rises, fileOk]; grind only)
   refine go [.R,.a,.Z] (k := ?_)
   refine rt1 2 ?_
   refine rb ?_
   simp only [thingsOk, opensOk_eq, pipesOk_eq, filesOk_eq]
   grind only
  try simp only [cnd] at c81
  refine go [.J,.R1,.m,.N,.b,.a,.Z] (k := ?_)
  refine ⟨⟨m.k + 1, by omega, m.next (show (fileU u.Files) m.k = true by simp only [fileU, rises, fileOk]; grind only)⟩, ws, ?_⟩
  show u.Files.length - (m.k + 1) < u.Files.length - m.k
  omega
 try simp only [cnd] at c58
 have hCC := m.full (by omega)
 refine AW.exit ?_
 dsimp only [thenQ, blockQ, reduceIte]
 refine go [.R,.a,.Z] (k := ?_)
 refine rt1 2 ?_
 refine rb ?_
 simp only [thingsOk, opensOk_eq, pipesOk_eq, filesOk_eq]
 grind only
end Go.Proofs.YthjfgpkjooaahaaGreat.VM

