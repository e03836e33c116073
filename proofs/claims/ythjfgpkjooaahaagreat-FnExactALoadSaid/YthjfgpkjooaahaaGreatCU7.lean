/- Contracts. No conditions. -/
import Derived.Test.YthjfgpkjooaahaaGreatCU6
set_option linter.all false
set_option maxHeartbeats 8000000
set_option maxRecDepth 10000
namespace Go.Proofs.YthjfgpkjooaahaaGreat.VM
open Go Go.RowKit Go.Proofs
theorem l6ProcOk_con (u : DUnix) (p : DProc) : Con Tryz.prog 139 [.g [.v (iv u.Next), .v (iv u.Tick), .h base [], .h (base + 1) [], .h (base + 2) [], .h (base + 3) [], .h (base + 4) [], .h (base + 5) [], .h (base + 6) []], .g [.v (iv p.Pid), .v (iv p.Parent), .v (iv p.State), .v (iv p.Prog), .v (iv p.Cpu.Pc), .h (base + 7) [], .h (base + 8) [], .h (base + 9) [], .v (iv p.Until), .v (iv p.Code)]] [.rt base .ro (tr u.Progs), .rt (base + 1) .ro (tr u.Procs), .rt (base + 2) .ro (tr u.Opens), .rt (base + 3) .ro (tr u.Pipes), .rt (base + 4) .ro (tr u.Files), .rt (base + 5) .ro (tr u.Ready), .rt (base + 6) .ro (tr u.Out), .rt (base + 7) .ro (tr p.Cpu.Regs), .rt (base + 8) .ro (tr p.Mem), .rt (base + 9) .ro (tr p.Fds)] (fun y _ => y = .v (.bool (procS u p))) := by
 refine ob Tryz.func139 Tryz.ntmps139 ?_
 refine AW.len (base + 1) [] rfl (by simp [Okp]) rfl (fun hl => ?_)
 refine AW.len (base + 9) [] rfl (by simp [Okp]) rfl (fun hl7 => ?_)
 have hpb : procAt u p.Parent < u.Procs.length := (ixOf_bd _ _).2
 have hZ := fdZ_all u p
 refine go [.R,.B,.N,.B,.N,.a,.Z,.R2,.f,.l,.N] (k := ?_)
 refine cv Tryz.call135 rfl rfl (l1InU_con _ _ _) ?_
 refine go [.N,.n,.m] (k := ?_)
 apply AWL.cut 3
 ·intro Kg1
  refine AWL.splitF 11 rfl (fun g1 => ?_) (fun g1 => ?_)
  ·have eg1 := g1
   try simp only [cnd] at eg1
   refine go [.f,.N,.l,.b] (k := ?_)
   exact wjT 14 [12, 13, 14] (ifF g1 _ undef) Kg1
  ·refine go [.x,.x,.x] (k := ?_)
   exact wjF 14 [12, 13, 14] (ifT g1 undef _) Kg1
 refine qq (Qt.pickOr rfl rfl rfl) ?_
 refine go [.N,.m] (k := ?_)
 apply AWL.cut 6
 ·intro Kg2
  refine AWL.splitF 16 rfl (fun g2 => ?_) (fun g2 => ?_)
  ·have eg2 := g2
   try simp only [cnd] at eg2
   refine go [.f,.l,.N,.f,.l,.h,.N,.b] (k := ?_)
   exact wjT 22 [17, 18, 19, 20, 21, 22] (ifF g2 _ undef) Kg2
  ·refine go [.x,.x,.x,.x,.N,.x,.x] (k := ?_)
   exact wjF 22 [17, 18, 19, 20, 21, 22] (ifT g2 undef _) Kg2
 refine qq (Qt.pickOr rfl rfl rfl) ?_
 refine go [.m,.N] (k := ?_)
 apply AWL.cut 4
 ·intro Kg3
  refine AWL.splitF 24 rfl (fun g3 => ?_) (fun g3 => ?_)
  ·have eg3 := g3
   try simp only [cnd] at eg3
   refine go [.f,.G] (k := ?_)
   refine AWL.step rfl (nF g3) (Stp.callV rfl (by decide) Tryz.call245 rfl rfl (CpuOkS_con _ _)) ?_
   refine go [.N,.n] (k := ?_)
   exact wjT 28 [25, 26, 27, 28] (ifF g3 _ undef) Kg3
  ·refine go [.x,.x,.x,.x] (k := ?_)
   exact wjF 28 [25, 26, 27, 28] (ifT g3 undef _) Kg3
 refine qq (Qt.pickOr rfl rfl rfl) ?_
 refine go [.m,.N] (k := ?_)
 apply AWL.cut 4
 ·intro Kg4
  refine AWL.splitF 30 rfl (fun g4 => ?_) (fun g4 => ?_)
  ·have eg4 := g4
   try simp only [cnd] at eg4
   refine go [.f,.l,.h,.N,.b] (k := ?_)
   exact wjT 34 [31, 32, 33, 34] (ifF g4 _ undef) Kg4
  ·refine go [.x,.x,.x,.x] (k := ?_)
   exact wjF 34 [31, 32, 33, 34] (ifT g4 undef _) Kg4
 refine qq (Qt.pickOr rfl rfl rfl) ?_
 refine go [.m,.N] (k := ?_)
 apply AWL.cut 5
 ·intro Kg5
  refine AWL.splitF 36 rfl (fun g5 => ?_) (fun g5 => ?_)
  ·have eg5 := g5
   try simp only [cnd] at eg5
   refine go [.f,.l,.h,.N] (k := ?_)
   refine qg (nF g5) (Qt.binOp rfl rfl (by first | exact pbRem4 _ | rfl | exact pbRemI (by omega))) ?_
   refine go [.b] (k := ?_)
   exact wjT 41 [37, 38, 39, 40, 41] (ifF g5 _ undef) Kg5
  ·refine go [.x,.x,.x,.x,.N,.x] (k := ?_)
   exact wjF 41 [37, 38, 39, 40, 41] (ifT g5 undef _) Kg5
 refine qq (Qt.pickOr rfl rfl rfl) ?_
 refine go [.N,.m] (k := ?_)
 apply AWL.cut 4
 ·intro Kg6
  refine AWL.splitF 43 rfl (fun g6 => ?_) (fun g6 => ?_)
  ·have eg6 := g6
   try simp only [cnd] at eg6
   refine go [.f,.l,.N] (k := ?_)
   refine AWL.step rfl (nF g6) (Stp.callV rfl (by decide) Tryz.call137 rfl rfl (l5Words_con _)) ?_
   refine go [.N,.n] (k := ?_)
   exact wjT 47 [44, 45, 46, 47] (ifF g6 _ undef) Kg6
  ·refine go [.x,.x,.x,.x] (k := ?_)
   exact wjF 47 [44, 45, 46, 47] (ifT g6 undef _) Kg6
 refine qq (Qt.pickOr rfl rfl rfl) ?_
 refine go [.m,.N] (k := ?_)
 apply AWL.cut 4
 ·intro Kg7
  refine AWL.splitF 49 rfl (fun g7 => ?_) (fun g7 => ?_)
  ·have eg7 := g7
   try simp only [cnd] at eg7
   refine go [.f,.l,.h,.N,.b] (k := ?_)
   exact wjT 53 [50, 51, 52, 53] (ifF g7 _ undef) Kg7
  ·refine go [.x,.x,.x,.x] (k := ?_)
   exact wjF 53 [50, 51, 52, 53] (ifT g7 undef _) Kg7
 refine qq (Qt.pickOr rfl rfl rfl) ?_
 refine go [.m,.N] (k := ?_)
 apply AWL.cut 4
 ·intro Kg8
  refine AWL.splitF 55 rfl (fun g8 => ?_) (fun g8 => ?_)
  ·have eg8 := g8
   try simp only [cnd] at eg8
   refine go [.f,.l] (k := ?_)
   refine AWL.step rfl (nF g8) (Stp.callV rfl (by decide) Tryz.call244 rfl rfl (l5Word_con _)) ?_
   refine go [.N,.n] (k := ?_)
   exact wjT 59 [56, 57, 58, 59] (ifF g8 _ undef) Kg8
  ·refine go [.x,.x,.x,.x] (k := ?_)
   exact wjF 59 [56, 57, 58, 59] (ifT g8 undef _) Kg8
 refine qq (Qt.pickOr rfl rfl rfl) ?_
 refine go [.Z] (k := ?_)
 refine cd (fun c9 => ?_) fun c9 => ?_
 ·try simp only [cnd] at c9
  refine go [.R,.a,.Z] (k := ?_)
  refine rt1 4 ?_
  refine rb ?_
  simp only [procS, untilOk, parentOk, endOk, cpuOk]
  grind only
 try simp only [cnd] at c9
 refine jd (sr2 ?_)
 refine go [.a,.Z] (k := ?_)
 refine AW.block ?_
 refine AW.loopW (fun i : AllInv (fdZ u p) p.Fds => (.sl 5 (.v (iv i.k)) :: .rt 2 .box (T.s 9 1 fun k c => ([(T.v (iv u.Next), none), (T.v (iv u.Tick), none), (T.j, none), (T.j, none), (T.j, none), (T.j, none), (T.j, none), (T.j, none), (T.j, none)].getD (k * 9 + c) (T.j, none)).fst) :: .al 2 2 (.h base []) :: .al 2 3 (.h (base + 1) []) :: .al 2 4 (.h (base + 2) []) :: .al 2 5 (.h (base + 3) []) :: .al 2 6 (.h (base + 4) []) :: .al 2 7 (.h (base + 5) []) :: .al 2 8 (.h (base + 6) []) :: .rt base .ro (tr u.Progs) :: .rt (base + 1) .ro (tr u.Procs) :: .rt (base + 2) .ro (tr u.Opens) :: .rt (base + 3) .ro (tr u.Pipes) :: .rt (base + 4) .ro (tr u.Files) :: .rt (base + 5) .ro (tr u.Ready) :: .rt (base + 6) .ro (tr u.Out) :: .sl 2 (.p 2 [] 9 0 0) :: .rt 3 .box (T.s 10 1 fun k c => ([(T.v (iv p.Pid), none), (T.v (iv p.Parent), none), (T.v (iv p.State), none), (T.v (iv p.Prog), none), (T.v (iv p.Cpu.Pc), none), (T.j, none), (T.j, none), (T.j, none), (T.v (iv p.Until), none), (T.v (iv p.Code), none)].getD (k * 10 + c) (T.j, none)).fst) :: .al 3 5 (.h (base + 7) []) :: .al 3 6 (.h (base + 8) []) :: .al 3 7 (.h (base + 9) []) :: .rt (base + 7) .ro (tr p.Cpu.Regs) :: .rt (base + 8) .ro (tr p.Mem) :: .rt (base + 9) .ro (tr p.Fds) :: .sl 3 (.p 3 [] 10 0 0) :: [])) (fun i => p.Fds.length - i.k) ⟨0, Nat.zero_le _, rfl⟩ (ws) ?_
 intro i
 have hle := i.le
 refine go [.R2,.m,.N,.f,.l,.h,.N,.b,.Z] (k := ?_)
 refine cd (fun c10 => ?_) fun c10 => ?_
 ·try simp only [cnd] at c10
  refine jd (AW.seq (AW.block (AW.seq ?_)))
  refine go [.D [0, 1, 2, 3, 4, 5, 6, 7, 8, 9, 10, 11, 12, 14, 15, 16, 17, 18, 19, 20],.t 0,.f,.t 1,.l,.N,.t 2,.m] (k := ?_)
  refine tk 3 rfl (Qt.indexAddr rfl rfl rfl rfl sl27 sz3 (by decide) (by first | omega | grind)) ?_
  refine go [.t 4,.l,.N,.t 5,.b,.t 6,.m] (k := ?_)
  refine AWA.split 74 rfl (fun g11 => ?_) (fun g11 => ?_)
  ·refine go [.t 7,.G,.N,.t 8,.f,.t 9,.l,.t 10,.m,.N] (k := ?_)
   refine tg 11 rfl g11 (Qt.indexAddr rfl rfl rfl rfl sl27 sz3 (by decide) (by first | omega | grind)) ?_
   refine go [.t 12,.l] (k := ?_)
   refine a1 13 [] [12, 7, 6, 11, 5, 10, 9, 4, 8, 3, 2, 1, 0] rfl g11 (Stp.callV rfl (by decide) Tryz.call246 rfl rfl (l6Open_con u _)) ?_
   refine go [.N,.t 14,.b,.t 15,.m] (k := ?_)
   refine AWA.split 83 rfl (fun g12 => ?_) (fun g12 => ?_)
   ·refine go [.t 16,.x,.N,.t 17,.x,.t 18,.x] (k := ?_)
    refine tg 19 rfl g11 (Qt.pickT rfl g12) ?_
    refine go [.N] (k := ?_)
    refine tk 20 rfl (Qt.pickT rfl g11) ?_
    refine go [.Z] (k := ?_)
    refine cd (fun c13 => ?_) fun c13 => ?_
    ·try simp only [cnd] at c13
     have hS := i.stop En.dflt (by omega) (show fdZ u p (p.Fds.getD i.k En.dflt) = false by simp only [fdZ]; grind only)
     refine go [.R,.a,.Z] (k := ?_)
     refine rt1 4 ?_
     refine rb ?_
     simp only [procS, untilOk, parentOk, endOk, cpuOk]
     grind only
    try simp only [cnd] at c13
    refine go [.J,.R1,.m,.N,.b,.a,.Z] (k := ?_)
    refine ⟨⟨i.k + 1, by omega, i.next En.dflt (by omega) (by simp only [fdZ]; grind only)⟩, ws, ?_⟩
    show p.Fds.length - (i.k + 1) < p.Fds.length - i.k
    omega
   refine go [.t 16,.f,.N,.t 17,.l,.t 18,.b] (k := ?_)
   refine tg 19 rfl g11 (Qt.pickF rfl g12) ?_
   refine go [.N] (k := ?_)
   refine tk 20 rfl (Qt.pickT rfl g11) ?_
   refine go [.Z] (k := ?_)
   refine cd (fun c14 => ?_) fun c14 => ?_
   ·try simp only [cnd] at c14
    have hS := i.stop En.dflt (by omega) (show fdZ u p (p.Fds.getD i.k En.dflt) = false by simp only [fdZ]; grind only)
    refine go [.R,.a,.Z] (k := ?_)
    refine rt1 4 ?_
    refine rb ?_
    simp only [procS, untilOk, parentOk, endOk, cpuOk]
    grind only
   try simp only [cnd] at c14
   refine go [.J,.R1,.m,.N,.b,.a,.Z] (k := ?_)
   refine ⟨⟨i.k + 1, by omega, i.next En.dflt (by omega) (by simp only [fdZ]; grind only)⟩, ws, ?_⟩
   show p.Fds.length - (i.k + 1) < p.Fds.length - i.k
   omega
  refine go [.t 7,.x,.N,.t 8,.x,.t 9,.x,.t 10,.x,.N,.t 11,.x,.t 12,.x,.O 13 [] [12, 7, 6, 11, 5, 10, 9, 4, 8, 3, 2, 1, 0],.x,.N,.t 14,.x,.t 15,.x,.t 16,.x,.N,.t 17,.x,.t 18,.x,.t 19,.x,.N] (k := ?_)
  refine tk 20 rfl (Qt.pickF rfl g11) ?_
  refine go [.Z] (k := ?_)
  refine cd (fun c15 => ?_) fun c15 => ?_
  ·try simp only [cnd] at c15
   have hS := i.stop En.dflt (by omega) (show fdZ u p (p.Fds.getD i.k En.dflt) = false by simp only [fdZ]; grind only)
   refine go [.R,.a,.Z] (k := ?_)
   refine rt1 4 ?_
   refine rb ?_
   simp only [procS, untilOk, parentOk, endOk, cpuOk]
   grind only
  try simp only [cnd] at c15
  refine go [.J,.R1,.m,.N,.b,.a,.Z] (k := ?_)
  refine ⟨⟨i.k + 1, by omega, i.next En.dflt (by omega) (by simp only [fdZ]; grind only)⟩, ws, ?_⟩
  show p.Fds.length - (i.k + 1) < p.Fds.length - i.k
  omega
 try simp only [cnd] at c10
 have hF := i.full (by omega)
 refine AW.exit ?_
 dsimp only [thenQ, blockQ, reduceIte]
 refine go [.R2,.f,.N,.l,.b,.Z] (k := ?_)
 refine cd (fun c16 => ?_) fun c16 => ?_
 ·try simp only [cnd] at c16
  refine go [.R,.G,.N,.f,.l] (k := ?_)
  refine cv Tryz.call247 rfl rfl (l6Proc_con u _) ?_
  refine go [.N,.a,.Z,.R,.m,.b,.N,.m] (k := ?_)
  apply AWL.cut 5
  ·intro Kg17
   refine AWL.splitF 98 rfl (fun g17 => ?_) (fun g17 => ?_)
   ·have eg17 := g17
    try simp only [cnd] at eg17
    refine go [.f,.l,.N,.f,.l,.b,.N] (k := ?_)
    exact wjT 103 [99, 100, 101, 102, 103] (ifF g17 _ undef) Kg17
   ·refine go [.x,.x,.x,.x,.N,.x] (k := ?_)
    exact wjF 103 [99, 100, 101, 102, 103] (ifT g17 undef _) Kg17
  refine qq (Qt.pickOr rfl rfl rfl) ?_
  refine go [.m] (k := ?_)
  apply AWL.cut 7
  ·intro Kg18
   refine AWL.splitF 105 rfl (fun g18 => ?_) (fun g18 => ?_)
   ·have eg18 := g18
    try simp only [cnd] at eg18
    refine go [.f,.N,.l,.m] (k := ?_)
    refine qg (nF g18) (Qt.indexAddr rfl rfl rfl rfl sl43 sz105 (by decide) (by first | omega | grind)) ?_
    refine go [.N,.f,.l,.b,.N] (k := ?_)
    exact wjT 112 [106, 107, 108, 109, 110, 111, 112] (ifF g18 _ undef) Kg18
   ·refine go [.x,.x,.x,.x,.N,.x,.x,.x] (k := ?_)
    exact wjF 112 [106, 107, 108, 109, 110, 111, 112] (ifT g18 undef _) Kg18
  refine qq (Qt.pickOr rfl rfl rfl) ?_
  refine go [.Z] (k := ?_)
  refine cd (fun c19 => ?_) fun c19 => ?_
  ·try simp only [cnd] at c19
   refine go [.R,.a,.Z] (k := ?_)
   refine rt1 4 ?_
   refine rb ?_
   simp only [procS, untilOk, parentOk, endOk, cpuOk]
   grind only
  try simp only [cnd] at c19
  refine jd (sr2 ?_)
  refine go [.f,.N,.l,.Z] (k := ?_)
  refine AW.block (sr ?_)
  refine go [.b,.a,.Z] (k := ?_)
  refine cd (fun c20 => ?_) fun c20 => ?_
  ·try simp only [cnd] at c20
   refine go [.R,.f,.N,.l,.f,.l,.N,.b,.Z] (k := ?_)
   refine cd (fun c21 => ?_) fun c21 => ?_
   ·try simp only [cnd] at c21
    refine go [.R,.a,.Z] (k := ?_)
    refine rt1 4 ?_
    refine rb ?_
    simp only [procS, untilOk, parentOk, endOk, cpuOk]
    grind only
   try simp only [cnd] at c21
   refine jd (sr2 ?_)
   refine go [.f,.N,.l,.b,.Z] (k := ?_)
   refine cd (fun c22 => ?_) fun c22 => ?_
   ·try simp only [cnd] at c22
    refine go [.R,.f,.N,.l,.h,.b,.N,.m] (k := ?_)
    apply AWL.cut 3
    ·intro Kg23
     refine AWL.split 149 rfl (fun g23 => ?_) (fun g23 => ?_)
     ·have eg23 := g23
      try simp only [cnd] at eg23
      refine go [.f,.l,.N,.b] (k := ?_)
      exact wjT 152 [150, 151, 152] (ifT g23 _ undef) Kg23
     ·refine go [.x,.x,.x] (k := ?_)
      exact wjF 152 [150, 151, 152] (ifF g23 undef _) Kg23
    refine qq (Qt.pickAnd rfl rfl rfl) ?_
    refine go [.a,.Z] (k := ?_)
    refine rt1 4 ?_
    refine rb ?_
    simp only [procS, untilOk, parentOk, endOk, cpuOk]
    grind only
   try simp only [cnd] at c22
   refine go [.J,.R,.f,.N,.l,.h,.b,.N,.m] (k := ?_)
   apply AWL.cut 3
   ·intro Kg24
    refine AWL.split 158 rfl (fun g24 => ?_) (fun g24 => ?_)
    ·have eg24 := g24
     try simp only [cnd] at eg24
     refine go [.f,.l,.N,.b] (k := ?_)
     exact wjT 161 [159, 160, 161] (ifT g24 _ undef) Kg24
    ·refine go [.x,.x,.x] (k := ?_)
     exact wjF 161 [159, 160, 161] (ifF g24 undef _) Kg24
   refine qq (Qt.pickAnd rfl rfl rfl) ?_
   refine go [.a,.Z] (k := ?_)
   refine rt1 4 ?_
   refine rb ?_
   simp only [procS, untilOk, parentOk, endOk, cpuOk]
   grind only
  try simp only [cnd] at c20
  refine go [.R2,.b,.N,.a,.Z] (k := ?_)
  refine cd (fun c25 => ?_) fun c25 => ?_
  ·have k25 := c25
   try simp only [cnd] at c25
   refine go [.J] (k := ?_)
   refine AW.condT rfl k25 ?_
   refine go [.R,.G,.f,.N,.l] (k := ?_)
   refine cv Tryz.call246 rfl rfl (l6Open_con u _) ?_
   refine go [.N,.b,.m] (k := ?_)
   apply AWL.cut 6
   ·intro Kg26
    refine AWL.splitF 134 rfl (fun g26 => ?_) (fun g26 => ?_)
    ·have eg26 := g26
     try simp only [cnd] at eg26
     refine go [.f,.N,.l,.f,.l,.N] (k := ?_)
     refine AWL.step rfl (nF g26) (Stp.callV rfl (by decide) Tryz.call248 rfl rfl (l6Has_con _ _)) ?_
     refine go [.N,.n] (k := ?_)
     exact wjT 140 [135, 136, 137, 138, 139, 140] (ifF g26 _ undef) Kg26
    ·refine go [.x,.x,.x,.x,.N,.x,.x] (k := ?_)
     exact wjF 140 [135, 136, 137, 138, 139, 140] (ifT g26 undef _) Kg26
   refine qq (Qt.pickOr rfl rfl rfl) ?_
   refine go [.Z] (k := ?_)
   refine cd (fun c27 => ?_) fun c27 => ?_
   ·try simp only [cnd] at c27
    refine go [.R,.a,.Z] (k := ?_)
    refine rt1 4 ?_
    refine rb ?_
    simp only [procS, untilOk, parentOk, endOk, cpuOk]
    grind only
   try simp only [cnd] at c27
   refine jd (sr2 ?_)
   refine go [.f,.N,.l,.b,.Z] (k := ?_)
   refine cd (fun c28 => ?_) fun c28 => ?_
   ·try simp only [cnd] at c28
    refine go [.R,.f,.N,.l,.h,.b,.N,.m] (k := ?_)
    apply AWL.cut 3
    ·intro Kg29
     refine AWL.split 149 rfl (fun g29 => ?_) (fun g29 => ?_)
     ·have eg29 := g29
      try simp only [cnd] at eg29
      refine go [.f,.l,.N,.b] (k := ?_)
      exact wjT 152 [150, 151, 152] (ifT g29 _ undef) Kg29
     ·refine go [.x,.x,.x] (k := ?_)
      exact wjF 152 [150, 151, 152] (ifF g29 undef _) Kg29
    refine qq (Qt.pickAnd rfl rfl rfl) ?_
    refine go [.a,.Z] (k := ?_)
    refine rt1 4 ?_
    refine rb ?_
    simp only [procS, untilOk, parentOk, endOk, cpuOk]
    grind only
   try simp only [cnd] at c28
   refine go [.J,.R,.f,.N,.l,.h,.b,.N,.m] (k := ?_)
   apply AWL.cut 3
   ·intro Kg30
    refine AWL.split 158 rfl (fun g30 => ?_) (fun g30 => ?_)
    ·have eg30 := g30
     try simp only [cnd] at eg30
     refine go [.f,.l,.N,.b] (k := ?_)
     exact wjT 161 [159, 160, 161] (ifT g30 _ undef) Kg30
    ·refine go [.x,.x,.x] (k := ?_)
     exact wjF 161 [159, 160, 161] (ifF g30 undef _) Kg30
   refine qq (Qt.pickAnd rfl rfl rfl) ?_
   refine go [.a,.Z] (k := ?_)
   refine rt1 4 ?_
   refine rb ?_
   simp only [procS, untilOk, parentOk, endOk, cpuOk]
   grind only
  have k25 := c25
  try simp only [cnd] at c25
  refine go [.R1,.b,.N,.a,.Z] (k := ?_)
  refine cd (fun c31 => ?_) fun c31 => ?_
  ·try simp only [cnd] at c31
   refine go [.R,.G,.f,.N,.l] (k := ?_)
   refine cv Tryz.call246 rfl rfl (l6Open_con u _) ?_
   refine go [.N,.b,.m] (k := ?_)
   apply AWL.cut 6
   ·intro Kg32
    refine AWL.splitF 134 rfl (fun g32 => ?_) (fun g32 => ?_)
    ·have eg32 := g32
     try simp only [cnd] at eg32
     refine go [.f,.N,.l,.f,.l,.N] (k := ?_)
     refine AWL.step rfl (nF g32) (Stp.callV rfl (by decide) Tryz.call248 rfl rfl (l6Has_con _ _)) ?_
     refine go [.N,.n] (k := ?_)
     exact wjT 140 [135, 136, 137, 138, 139, 140] (ifF g32 _ undef) Kg32
    ·refine go [.x,.x,.x,.x,.N,.x,.x] (k := ?_)
     exact wjF 140 [135, 136, 137, 138, 139, 140] (ifT g32 undef _) Kg32
   refine qq (Qt.pickOr rfl rfl rfl) ?_
   refine go [.Z] (k := ?_)
   refine cd (fun c33 => ?_) fun c33 => ?_
   ·try simp only [cnd] at c33
    refine go [.R,.a,.Z] (k := ?_)
    refine rt1 4 ?_
    refine rb ?_
    simp only [procS, untilOk, parentOk, endOk, cpuOk]
    grind only
   try simp only [cnd] at c33
   refine jd (sr2 ?_)
   refine go [.f,.N,.l,.b,.Z] (k := ?_)
   refine cd (fun c34 => ?_) fun c34 => ?_
   ·try simp only [cnd] at c34
    refine go [.R,.f,.N,.l,.h,.b,.N,.m] (k := ?_)
    apply AWL.cut 3
    ·intro Kg35
     refine AWL.split 149 rfl (fun g35 => ?_) (fun g35 => ?_)
     ·have eg35 := g35
      try simp only [cnd] at eg35
      refine go [.f,.l,.N,.b] (k := ?_)
      exact wjT 152 [150, 151, 152] (ifT g35 _ undef) Kg35
     ·refine go [.x,.x,.x] (k := ?_)
      exact wjF 152 [150, 151, 152] (ifF g35 undef _) Kg35
    refine qq (Qt.pickAnd rfl rfl rfl) ?_
    refine go [.a,.Z] (k := ?_)
    refine rt1 4 ?_
    refine rb ?_
    simp only [procS, untilOk, parentOk, endOk, cpuOk]
    grind only
   try simp only [cnd] at c34
   refine go [.J,.R,.f,.N,.l,.h,.b,.N,.m] (k := ?_)
   apply AWL.cut 3
   ·intro Kg36
    refine AWL.split 158 rfl (fun g36 => ?_) (fun g36 => ?_)
    ·have eg36 := g36
     try simp only [cnd] at eg36
     refine go [.f,.l,.N,.b] (k := ?_)
     exact wjT 161 [159, 160, 161] (ifT g36 _ undef) Kg36
    ·refine go [.x,.x,.x] (k := ?_)
     exact wjF 161 [159, 160, 161] (ifF g36 undef _) Kg36
   refine qq (Qt.pickAnd rfl rfl rfl) ?_
   refine go [.a,.Z] (k := ?_)
   refine rt1 4 ?_
   refine rb ?_
   simp only [procS, untilOk, parentOk, endOk, cpuOk]
   grind only
  try simp only [cnd] at c31
  refine go [.R,.f,.N,.l,.b,.Z] (k := ?_)
  refine cd (fun c37 => ?_) fun c37 => ?_
  ·try simp only [cnd] at c37
   refine go [.R,.a,.Z] (k := ?_)
   refine rt1 4 ?_
   refine rb ?_
   simp only [procS, untilOk, parentOk, endOk, cpuOk]
   grind only
  try simp only [cnd] at c37
  refine jd (sr2 ?_)
  refine go [.f,.N,.l,.b,.Z] (k := ?_)
  refine cd (fun c38 => ?_) fun c38 => ?_
  ·try simp only [cnd] at c38
   refine go [.R,.f,.N,.l,.h,.b,.N,.m] (k := ?_)
   apply AWL.cut 3
   ·intro Kg39
    refine AWL.split 149 rfl (fun g39 => ?_) (fun g39 => ?_)
    ·have eg39 := g39
     try simp only [cnd] at eg39
     refine go [.f,.l,.N,.b] (k := ?_)
     exact wjT 152 [150, 151, 152] (ifT g39 _ undef) Kg39
    ·refine go [.x,.x,.x] (k := ?_)
     exact wjF 152 [150, 151, 152] (ifF g39 undef _) Kg39
   refine qq (Qt.pickAnd rfl rfl rfl) ?_
   refine go [.a,.Z] (k := ?_)
   refine rt1 4 ?_
   refine rb ?_
   simp only [procS, untilOk, parentOk, endOk, cpuOk]
   grind only
  try simp only [cnd] at c38
  refine go [.J,.R,.f,.N,.l,.h,.b,.N,.m] (k := ?_)
  apply AWL.cut 3
  ·intro Kg40
   refine AWL.split 158 rfl (fun g40 => ?_) (fun g40 => ?_)
   ·have eg40 := g40
    try simp only [cnd] at eg40
    refine go [.f,.l,.N,.b] (k := ?_)
    exact wjT 161 [159, 160, 161] (ifT g40 _ undef) Kg40
   ·refine go [.x,.x,.x] (k := ?_)
    exact wjF 161 [159, 160, 161] (ifF g40 undef _) Kg40
  refine qq (Qt.pickAnd rfl rfl rfl) ?_
  refine go [.a,.Z] (k := ?_)
  refine rt1 4 ?_
  refine rb ?_
  simp only [procS, untilOk, parentOk, endOk, cpuOk]
  grind only
 try simp only [cnd] at c16
 refine jd (sr2 ?_)
 refine go [.f,.N,.l,.Z] (k := ?_)
 refine AW.block (sr ?_)
 refine go [.b,.a,.Z] (k := ?_)
 refine cd (fun c41 => ?_) fun c41 => ?_
 ·try simp only [cnd] at c41
  refine go [.R,.f,.N,.l,.f,.l,.N,.b,.Z] (k := ?_)
  refine cd (fun c42 => ?_) fun c42 => ?_
  ·try simp only [cnd] at c42
   refine go [.R,.a,.Z] (k := ?_)
   refine rt1 4 ?_
   refine rb ?_
   simp only [procS, untilOk, parentOk, endOk, cpuOk]
   grind only
  try simp only [cnd] at c42
  refine jd (sr2 ?_)
  refine go [.f,.N,.l,.b,.Z] (k := ?_)
  refine cd (fun c43 => ?_) fun c43 => ?_
  ·try simp only [cnd] at c43
   refine go [.R,.f,.N,.l,.h,.b,.N,.m] (k := ?_)
   apply AWL.cut 3
   ·intro Kg44
    refine AWL.split 149 rfl (fun g44 => ?_) (fun g44 => ?_)
    ·have eg44 := g44
     try simp only [cnd] at eg44
     refine go [.f,.l,.N,.b] (k := ?_)
     exact wjT 152 [150, 151, 152] (ifT g44 _ undef) Kg44
    ·refine go [.x,.x,.x] (k := ?_)
     exact wjF 152 [150, 151, 152] (ifF g44 undef _) Kg44
   refine qq (Qt.pickAnd rfl rfl rfl) ?_
   refine go [.a,.Z] (k := ?_)
   refine rt1 4 ?_
   refine rb ?_
   simp only [procS, untilOk, parentOk, endOk, cpuOk]
   grind only
  try simp only [cnd] at c43
  refine go [.J,.R,.f,.N,.l,.h,.b,.N,.m] (k := ?_)
  apply AWL.cut 3
  ·intro Kg45
   refine AWL.split 158 rfl (fun g45 => ?_) (fun g45 => ?_)
   ·have eg45 := g45
    try simp only [cnd] at eg45
    refine go [.f,.l,.N,.b] (k := ?_)
    exact wjT 161 [159, 160, 161] (ifT g45 _ undef) Kg45
   ·refine go [.x,.x,.x] (k := ?_)
    exact wjF 161 [159, 160, 161] (ifF g45 undef _) Kg45
  refine qq (Qt.pickAnd rfl rfl rfl) ?_
  refine go [.a,.Z] (k := ?_)
  refine rt1 4 ?_
  refine rb ?_
  simp only [procS, untilOk, parentOk, endOk, cpuOk]
  grind only
 try simp only [cnd] at c41
 refine go [.R2,.b,.N,.a,.Z] (k := ?_)
 refine cd (fun c46 => ?_) fun c46 => ?_
 ·have k46 := c46
  try simp only [cnd] at c46
  refine go [.J] (k := ?_)
  refine AW.condT rfl k46 ?_
  refine go [.R,.G,.f,.N,.l] (k := ?_)
  refine cv Tryz.call246 rfl rfl (l6Open_con u _) ?_
  refine go [.N,.b,.m] (k := ?_)
  apply AWL.cut 6
  ·intro Kg47
   refine AWL.splitF 134 rfl (fun g47 => ?_) (fun g47 => ?_)
   ·have eg47 := g47
    try simp only [cnd] at eg47
    refine go [.f,.N,.l,.f,.l,.N] (k := ?_)
    refine AWL.step rfl (nF g47) (Stp.callV rfl (by decide) Tryz.call248 rfl rfl (l6Has_con _ _)) ?_
    refine go [.N,.n] (k := ?_)
    exact wjT 140 [135, 136, 137, 138, 139, 140] (ifF g47 _ undef) Kg47
   ·refine go [.x,.x,.x,.x,.N,.x,.x] (k := ?_)
    exact wjF 140 [135, 136, 137, 138, 139, 140] (ifT g47 undef _) Kg47
  refine qq (Qt.pickOr rfl rfl rfl) ?_
  refine go [.Z] (k := ?_)
  refine cd (fun c48 => ?_) fun c48 => ?_
  ·try simp only [cnd] at c48
   refine go [.R,.a,.Z] (k := ?_)
   refine rt1 4 ?_
   refine rb ?_
   simp only [procS, untilOk, parentOk, endOk, cpuOk]
   grind only
  try simp only [cnd] at c48
  refine jd (sr2 ?_)
  refine go [.f,.N,.l,.b,.Z] (k := ?_)
  refine cd (fun c49 => ?_) fun c49 => ?_
  ·try simp only [cnd] at c49
   refine go [.R,.f,.N,.l,.h,.b,.N,.m] (k := ?_)
   apply AWL.cut 3
   ·intro Kg50
    refine AWL.split 149 rfl (fun g50 => ?_) (fun g50 => ?_)
    ·have eg50 := g50
     try simp only [cnd] at eg50
     refine go [.f,.l,.N,.b] (k := ?_)
     exact wjT 152 [150, 151, 152] (ifT g50 _ undef) Kg50
    ·refine go [.x,.x,.x] (k := ?_)
     exact wjF 152 [150, 151, 152] (ifF g50 undef _) Kg50
   refine qq (Qt.pickAnd rfl rfl rfl) ?_
   refine go [.a,.Z] (k := ?_)
   refine rt1 4 ?_
   refine rb ?_
   simp only [procS, untilOk, parentOk, endOk, cpuOk]
   grind only
  try simp only [cnd] at c49
  refine go [.J,.R,.f,.N,.l,.h,.b,.N,.m] (k := ?_)
  apply AWL.cut 3
  ·intro Kg51
   refine AWL.split 158 rfl (fun g51 => ?_) (fun g51 => ?_)
   ·have eg51 := g51
    try simp only [cnd] at eg51
    refine go [.f,.l,.N,.b] (k := ?_)
    exact wjT 161 [159, 160, 161] (ifT g51 _ undef) Kg51
   ·refine go [.x,.x,.x] (k := ?_)
    exact wjF 161 [159, 160, 161] (ifF g51 undef _) Kg51
  refine qq (Qt.pickAnd rfl rfl rfl) ?_
  refine go [.a,.Z] (k := ?_)
  refine rt1 4 ?_
  refine rb ?_
  simp only [procS, untilOk, parentOk, endOk, cpuOk]
  grind only
 have k46 := c46
 try simp only [cnd] at c46
 refine go [.R1,.b,.N,.a,.Z] (k := ?_)
 refine cd (fun c52 => ?_) fun c52 => ?_
 ·try simp only [cnd] at c52
  refine go [.R,.G,.f,.N,.l] (k := ?_)
  refine cv Tryz.call246 rfl rfl (l6Open_con u _) ?_
  refine go [.N,.b,.m] (k := ?_)
  apply AWL.cut 6
  ·intro Kg53
   refine AWL.splitF 134 rfl (fun g53 => ?_) (fun g53 => ?_)
   ·have eg53 := g53
    try simp only [cnd] at eg53
    refine go [.f,.N,.l,.f,.l,.N] (k := ?_)
    refine AWL.step rfl (nF g53) (Stp.callV rfl (by decide) Tryz.call248 rfl rfl (l6Has_con _ _)) ?_
    refine go [.N,.n] (k := ?_)
    exact wjT 140 [135, 136, 137, 138, 139, 140] (ifF g53 _ undef) Kg53
   ·refine go [.x,.x,.x,.x,.N,.x,.x] (k := ?_)
    exact wjF 140 [135, 136, 137, 138, 139, 140] (ifT g53 undef _) Kg53
  refine qq (Qt.pickOr rfl rfl rfl) ?_
  refine go [.Z] (k := ?_)
  refine cd (fun c54 => ?_) fun c54 => ?_
  ·try simp only [cnd] at c54
   refine go [.R,.a,.Z] (k := ?_)
   refine rt1 4 ?_
   refine rb ?_
   simp only [procS, untilOk, parentOk, endOk, cpuOk]
   grind only
  try simp only [cnd] at c54
  refine jd (sr2 ?_)
  refine go [.f,.N,.l,.b,.Z] (k := ?_)
  refine cd (fun c55 => ?_) fun c55 => ?_
  ·try simp only [cnd] at c55
   refine go [.R,.f,.N,.l,.h,.b,.N,.m] (k := ?_)
   apply AWL.cut 3
   ·intro Kg56
    refine AWL.split 149 rfl (fun g56 => ?_) (fun g56 => ?_)
    ·have eg56 := g56
     try simp only [cnd] at eg56
     refine go [.f,.l,.N,.b] (k := ?_)
     exact wjT 152 [150, 151, 152] (ifT g56 _ undef) Kg56
    ·refine go [.x,.x,.x] (k := ?_)
     exact wjF 152 [150, 151, 152] (ifF g56 undef _) Kg56
   refine qq (Qt.pickAnd rfl rfl rfl) ?_
   refine go [.a,.Z] (k := ?_)
   refine rt1 4 ?_
   refine rb ?_
   simp only [procS, untilOk, parentOk, endOk, cpuOk]
   grind only
  try simp only [cnd] at c55
  refine go [.J,.R,.f,.N,.l,.h,.b,.N,.m] (k := ?_)
  apply AWL.cut 3
  ·intro Kg57
   refine AWL.split 158 rfl (fun g57 => ?_) (fun g57 => ?_)
   ·have eg57 := g57
    try simp only [cnd] at eg57
    refine go [.f,.l,.N,.b] (k := ?_)
    exact wjT 161 [159, 160, 161] (ifT g57 _ undef) Kg57
   ·refine go [.x,.x,.x] (k := ?_)
    exact wjF 161 [159, 160, 161] (ifF g57 undef _) Kg57
  refine qq (Qt.pickAnd rfl rfl rfl) ?_
  refine go [.a,.Z] (k := ?_)
  refine rt1 4 ?_
  refine rb ?_
  simp only [procS, untilOk, parentOk, endOk, cpuOk]
  grind only
 try simp only [cnd] at c52
 refine go [.R,.f,.N,.l,.b,.Z] (k := ?_)
 refine cd (fun c58 => ?_) fun c58 => ?_
 ·try simp only [cnd] at c58
  refine go [.R,.a,.Z] (k := ?_)
  refine rt1 4 ?_
  refine rb ?_
  simp only [procS, untilOk, parentOk, endOk, cpuOk]
  grind only
 try simp only [cnd] at c58
 refine jd (sr2 ?_)
 refine go [.f,.N,.l,.b,.Z] (k := ?_)
 refine cd (fun c59 => ?_) fun c59 => ?_
 ·try simp only [cnd] at c59
  refine go [.R,.f,.N,.l,.h,.b,.N,.m] (k := ?_)
  apply AWL.cut 3
  ·intro Kg60
   refine AWL.split 149 rfl (fun g60 => ?_) (fun g60 => ?_)
   ·have eg60 := g60
    try simp only [cnd] at eg60
    refine go [.f,.l,.N,.b] (k := ?_)
    exact wjT 152 [150, 151, 152] (ifT g60 _ undef) Kg60
   ·refine go [.x,.x,.x] (k := ?_)
    exact wjF 152 [150, 151, 152] (ifF g60 undef _) Kg60
  refine qq (Qt.pickAnd rfl rfl rfl) ?_
  refine go [.a,.Z] (k := ?_)
  refine rt1 4 ?_
  refine rb ?_
  simp only [procS, untilOk, parentOk, endOk, cpuOk]
  grind only
 try simp only [cnd] at c59
 refine go [.J,.R,.f,.N,.l,.h,.b,.N,.m] (k := ?_)
 apply AWL.cut 3
 ·intro Kg61
  refine AWL.split 158 rfl (fun g61 => ?_) (fun g61 => ?_)
  ·have eg61 := g61
   try simp only [cnd] at eg61
   refine go [.f,.l,.N,.b] (k := ?_)
   exact wjT 161 [159, 160, 161] (ifT g61 _ undef) Kg61
  ·refine go [.x,.x,.x] (k := ?_)
   exact wjF 161 [159, 160, 161] (ifF g61 undef _) Kg61
 refine qq (Qt.pickAnd rfl rfl rfl) ?_
 refine go [.a,.Z] (k := ?_)
 refine rt1 4 ?_
 refine rb ?_
 simp only [procS, untilOk, parentOk, endOk, cpuOk]
 grind only
end Go.Proofs.YthjfgpkjooaahaaGreat.VM

