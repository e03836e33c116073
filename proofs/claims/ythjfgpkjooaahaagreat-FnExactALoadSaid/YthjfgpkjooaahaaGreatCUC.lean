/- Contracts. No conditions. -/
import Derived.Test.YthjfgpkjooaahaaGreatCUB
set_option linter.all false
set_option maxHeartbeats 8000000
set_option maxRecDepth 10000
namespace Go.Proofs.YthjfgpkjooaahaaGreat.VM
open Go Go.RowKit Go.Proofs
theorem procOk_con (u : DUnix) (p : DProc) (hn : 1 ≤ u.Next) (hn2 : u.Next ≤ 100000) (hpl : (u.Progs.length : Int) ≤ 4) : Con Tryz.prog 157 [.g [.v (iv u.Next), .v (iv u.Tick), .h base [], .h (base + 1) [], .h (base + 2) [], .h (base + 3) [], .h (base + 4) [], .h (base + 5) [], .h (base + 6) []], .g [.v (iv p.Pid), .v (iv p.Parent), .v (iv p.State), .v (iv p.Prog), .v (iv p.Cpu.Pc), .h (base + 7) [], .h (base + 8) [], .h (base + 9) [], .v (iv p.Until), .v (iv p.Code)]] [.rt base .ro (tr u.Progs), .rt (base + 1) .ro (tr u.Procs), .rt (base + 2) .ro (tr u.Opens), .rt (base + 3) .ro (tr u.Pipes), .rt (base + 4) .ro (tr u.Files), .rt (base + 5) .ro (tr u.Ready), .rt (base + 6) .ro (tr u.Out), .rt (base + 7) .ro (tr p.Cpu.Regs), .rt (base + 8) .ro (tr p.Mem), .rt (base + 9) .ro (tr p.Fds)] (fun y _ => y = .v (.bool (procOk u p))) := by
 refine ob Tryz.func157 Tryz.ntmps157 ?_
 have hpb : procAt u p.Parent < u.Procs.length := (ixOf_bd _ _).2
 have hA1 := any_fd p.Fds (fdOk u)
 have hA2 := any_fd p.Fds (fun x => x == -1)
 refine AW.len (base + 8) [] rfl (by simp [Okp]) rfl (fun hlm => ?_)
 refine go [.R,.B,.N,.B,.N,.a,.Z,.R2,.f,.l,.N,.f,.l,.b,.N] (k := ?_)
 refine cv Tryz.call152 rfl rfl (inU_con _ _ _) ?_
 refine go [.N,.n,.m] (k := ?_)
 apply AWL.cut 4
 ·intro Kg1
  refine AWL.splitF 13 rfl (fun g1 => ?_) (fun g1 => ?_)
  ·have eg1 := g1
   try simp only [cnd] at eg1
   refine go [.f,.N,.l] (k := ?_)
   refine AWL.step rfl (nF g1) (Stp.callV rfl (by decide) Tryz.call152 rfl rfl (inU_con _ _ _)) ?_
   refine go [.N,.n] (k := ?_)
   exact wjT 17 [14, 15, 16, 17] (ifF g1 _ undef) Kg1
  ·refine go [.x,.x,.x,.x] (k := ?_)
   exact wjF 17 [14, 15, 16, 17] (ifT g1 undef _) Kg1
 refine qq (Qt.pickOr rfl rfl rfl) ?_
 refine go [.m,.N] (k := ?_)
 apply AWL.cut 8
 ·intro Kg2
  refine AWL.splitF 19 rfl (fun g2 => ?_) (fun g2 => ?_)
  ·have eg2 := g2
   try simp only [cnd] at eg2
   refine go [.f,.l,.f,.N,.l,.h,.b,.N] (k := ?_)
   refine AWL.step rfl (nF g2) (Stp.callV rfl (by decide) Tryz.call152 rfl rfl (inU_con _ _ _)) ?_
   refine go [.N,.n] (k := ?_)
   exact wjT 27 [20, 21, 22, 23, 24, 25, 26, 27] (ifF g2 _ undef) Kg2
  ·refine go [.x,.x,.x,.x,.N,.x,.x,.x,.x] (k := ?_)
   exact wjF 27 [20, 21, 22, 23, 24, 25, 26, 27] (ifT g2 undef _) Kg2
 refine qq (Qt.pickOr rfl rfl rfl) ?_
 refine go [.m,.N] (k := ?_)
 apply AWL.cut 4
 ·intro Kg3
  refine AWL.splitF 29 rfl (fun g3 => ?_) (fun g3 => ?_)
  ·have eg3 := g3
   try simp only [cnd] at eg3
   refine go [.f,.G] (k := ?_)
   refine AWL.step rfl (nF g3) (Stp.callV rfl (by decide) Tryz.call262 rfl rfl (CpuOkI_con _ _)) ?_
   refine go [.N,.n] (k := ?_)
   exact wjT 33 [30, 31, 32, 33] (ifF g3 _ undef) Kg3
  ·refine go [.x,.x,.x,.x] (k := ?_)
   exact wjF 33 [30, 31, 32, 33] (ifT g3 undef _) Kg3
 refine qq (Qt.pickOr rfl rfl rfl) ?_
 refine go [.m,.N] (k := ?_)
 apply AWL.cut 4
 ·intro Kg4
  refine AWL.splitF 35 rfl (fun g4 => ?_) (fun g4 => ?_)
  ·have eg4 := g4
   try simp only [cnd] at eg4
   refine go [.f,.l] (k := ?_)
   refine AWL.step rfl (nF g4) (Stp.callV rfl (by decide) Tryz.call257 rfl rfl (isWord_con _)) ?_
   refine go [.N,.n] (k := ?_)
   exact wjT 39 [36, 37, 38, 39] (ifF g4 _ undef) Kg4
  ·refine go [.x,.x,.x,.x] (k := ?_)
   exact wjF 39 [36, 37, 38, 39] (ifT g4 undef _) Kg4
 refine qq (Qt.pickOr rfl rfl rfl) ?_
 refine go [.Z] (k := ?_)
 refine cd (fun c5 => ?_) fun c5 => ?_
 ·try simp only [cnd] at c5
  refine go [.R,.a,.Z] (k := ?_)
  refine rt1 4 ?_
  refine rb ?_
  simp only [procOk, procS, parentOk, endOk, cpuOk]
  grind only
 try simp only [cnd] at c5
 refine jd (sr2 ?_)
 refine go [.f,.N,.l,.b,.Z] (k := ?_)
 refine cd (fun c6 => ?_) fun c6 => ?_
 ·try simp only [cnd] at c6
  refine go [.R,.G,.N,.f,.l] (k := ?_)
  refine cv Tryz.call263 rfl rfl (procAtI_con u _) ?_
  refine go [.N,.a,.Z,.R,.m,.b,.N,.m] (k := ?_)
  apply AWL.cut 5
  ·intro Kg7
   refine AWL.splitF 50 rfl (fun g7 => ?_) (fun g7 => ?_)
   ·have eg7 := g7
    try simp only [cnd] at eg7
    refine go [.f,.l,.N,.f,.l,.b,.N] (k := ?_)
    exact wjT 55 [51, 52, 53, 54, 55] (ifF g7 _ undef) Kg7
   ·refine go [.x,.x,.x,.x,.N,.x] (k := ?_)
    exact wjF 55 [51, 52, 53, 54, 55] (ifT g7 undef _) Kg7
  refine qq (Qt.pickOr rfl rfl rfl) ?_
  refine go [.m] (k := ?_)
  apply AWL.cut 7
  ·intro Kg8
   refine AWL.splitF 57 rfl (fun g8 => ?_) (fun g8 => ?_)
   ·have eg8 := g8
    try simp only [cnd] at eg8
    refine go [.f,.N,.l,.m,.i,.N,.f,.l,.b,.N] (k := ?_)
    exact wjT 64 [58, 59, 60, 61, 62, 63, 64] (ifF g8 _ undef) Kg8
   ·refine go [.x,.x,.x,.x,.N,.x,.x,.x] (k := ?_)
    exact wjF 64 [58, 59, 60, 61, 62, 63, 64] (ifT g8 undef _) Kg8
  refine qq (Qt.pickOr rfl rfl rfl) ?_
  refine go [.Z] (k := ?_)
  refine cd (fun c9 => ?_) fun c9 => ?_
  ·try simp only [cnd] at c9
   refine go [.R,.a,.Z] (k := ?_)
   refine rt1 4 ?_
   refine rb ?_
   simp only [procOk, procS, parentOk, endOk, cpuOk]
   grind only
  try simp only [cnd] at c9
  refine jd (sr2 ?_)
  refine go [.f,.N,.l,.h,.b,.N,.m] (k := ?_)
  apply AWL.cut 5
  ·intro Kg10
   refine AWL.splitF 70 rfl (fun g10 => ?_) (fun g10 => ?_)
   ·have eg10 := g10
    try simp only [cnd] at eg10
    refine go [.f,.l,.N,.h] (k := ?_)
    refine qg (nF g10) (Qt.binOp rfl rfl (by first | exact pbRem4 _ | rfl | exact pbRemI (by omega))) ?_
    refine go [.b,.N] (k := ?_)
    exact wjT 75 [71, 72, 73, 74, 75] (ifF g10 _ undef) Kg10
   ·refine go [.x,.x,.x,.x,.N,.x] (k := ?_)
    exact wjF 75 [71, 72, 73, 74, 75] (ifT g10 undef _) Kg10
  refine qq (Qt.pickOr rfl rfl rfl) ?_
  refine go [.m] (k := ?_)
  apply AWL.cut 4
  ·intro Kg11
   refine AWL.splitF 77 rfl (fun g11 => ?_) (fun g11 => ?_)
   ·have eg11 := g11
    try simp only [cnd] at eg11
    refine go [.f,.N,.l] (k := ?_)
    refine AWL.step rfl (nF g11) (Stp.callV rfl (by decide) Tryz.call153 rfl rfl (wordsOk_con _)) ?_
    refine go [.N,.n] (k := ?_)
    exact wjT 81 [78, 79, 80, 81] (ifF g11 _ undef) Kg11
   ·refine go [.x,.x,.x,.x] (k := ?_)
    exact wjF 81 [78, 79, 80, 81] (ifT g11 undef _) Kg11
  refine qq (Qt.pickOr rfl rfl rfl) ?_
  refine go [.m,.N] (k := ?_)
  apply AWL.cut 4
  ·intro Kg12
   refine AWL.splitF 83 rfl (fun g12 => ?_) (fun g12 => ?_)
   ·have eg12 := g12
    try simp only [cnd] at eg12
    refine go [.f,.l,.h,.N,.b] (k := ?_)
    exact wjT 87 [84, 85, 86, 87] (ifF g12 _ undef) Kg12
   ·refine go [.x,.x,.x,.x] (k := ?_)
    exact wjF 87 [84, 85, 86, 87] (ifT g12 undef _) Kg12
  refine qq (Qt.pickOr rfl rfl rfl) ?_
  refine go [.m,.N] (k := ?_)
  apply AWL.cut 4
  ·intro Kg13
   refine AWL.splitF 89 rfl (fun g13 => ?_) (fun g13 => ?_)
   ·have eg13 := g13
    try simp only [cnd] at eg13
    refine go [.G,.G] (k := ?_)
    refine AWL.step rfl (nF g13) (Stp.callV rfl (by decide) Tryz.call264 rfl rfl (untilOk_con u p)) ?_
    refine go [.N,.n] (k := ?_)
    exact wjT 93 [90, 91, 92, 93] (ifF g13 _ undef) Kg13
   ·refine go [.x,.x,.x,.x] (k := ?_)
    exact wjF 93 [90, 91, 92, 93] (ifT g13 undef _) Kg13
  refine qq (Qt.pickOr rfl rfl rfl) ?_
  refine go [.Z] (k := ?_)
  refine cd (fun c14 => ?_) fun c14 => ?_
  ·try simp only [cnd] at c14
   refine go [.R,.a,.Z] (k := ?_)
   refine rt1 4 ?_
   refine rb ?_
   simp only [procOk, procS, parentOk, endOk, cpuOk]
   grind only
  try simp only [cnd] at c14
  refine jd (sr2 ?_)
  refine go [.f,.N,.l] (k := ?_)
  refine qq Qt.makeFunc ?_
  refine cv Tryz.call255 rfl rfl (Con.simH (hasIU_con u Tryz.call265 (fun x => procOk1_con u x) p.Fds) ⟨⟨_, rfl, tsr⟩, ⟨_, rfl, (sim_one (fun c hc => match c, hc with | 0, _ => tsr | 1, _ => tsr | 2, _ => tsr | 3, _ => tsr | 4, _ => tsr | 5, _ => tsr | 6, _ => tsr | 7, _ => tsr | 8, _ => tsr | c + 9, hc => absurd hc (by simp only [En.n]; omega)))⟩, trivial⟩ rfl rfl rfl) ?_
  refine go [.Z] (k := ?_)
  refine cd (fun c15 => ?_) fun c15 => ?_
  ·try simp only [cnd] at c15
   refine go [.R,.a,.Z] (k := ?_)
   refine rt1 4 ?_
   refine rb ?_
   simp only [procOk, procS, parentOk, endOk, cpuOk]
   grind only
  try simp only [cnd] at c15
  refine jd (sr2 ?_)
  refine go [.f,.N,.l,.b,.Z] (k := ?_)
  refine cd (fun c16 => ?_) fun c16 => ?_
  ·try simp only [cnd] at c16
   refine go [.R,.f,.N,.l,.h,.b,.N,.m] (k := ?_)
   apply AWL.cut 3
   ·intro Kg17
    refine AWL.split 106 rfl (fun g17 => ?_) (fun g17 => ?_)
    ·have eg17 := g17
     try simp only [cnd] at eg17
     refine go [.f,.l,.N,.b] (k := ?_)
     exact wjT 109 [107, 108, 109] (ifT g17 _ undef) Kg17
    ·refine go [.x,.x,.x] (k := ?_)
     exact wjF 109 [107, 108, 109] (ifF g17 undef _) Kg17
   refine qq (Qt.pickAnd rfl rfl rfl) ?_
   refine go [.m,.N] (k := ?_)
   apply AWL.cut 4
   ·intro Kg18
    refine AWL.split 111 rfl (fun g18 => ?_) (fun g18 => ?_)
    ·have eg18 := g18
     try simp only [cnd] at eg18
     refine go [.f,.l] (k := ?_)
     refine AWL.step rfl g18 (Stp.callV rfl (by decide) Tryz.call255 rfl rfl (hasU_con Tryz.call267 (fun x => procOk2_con x) p.Fds)) ?_
     refine go [.N,.n] (k := ?_)
     exact wjT 115 [112, 113, 114, 115] (ifT g18 _ undef) Kg18
    ·refine go [.x,.x,.x,.x] (k := ?_)
     exact wjF 115 [112, 113, 114, 115] (ifF g18 undef _) Kg18
   refine qq (Qt.pickAnd rfl rfl rfl) ?_
   refine go [.a,.Z] (k := ?_)
   refine rt1 4 ?_
   refine rb ?_
   simp only [procOk, procS, parentOk, endOk, cpuOk]
   grind only
  try simp only [cnd] at c16
  refine go [.J,.R,.f,.N,.l,.h,.b,.N,.m] (k := ?_)
  apply AWL.cut 3
  ·intro Kg19
   refine AWL.split 121 rfl (fun g19 => ?_) (fun g19 => ?_)
   ·have eg19 := g19
    try simp only [cnd] at eg19
    refine go [.f,.l,.N,.b] (k := ?_)
    exact wjT 124 [122, 123, 124] (ifT g19 _ undef) Kg19
   ·refine go [.x,.x,.x] (k := ?_)
    exact wjF 124 [122, 123, 124] (ifF g19 undef _) Kg19
  refine qq (Qt.pickAnd rfl rfl rfl) ?_
  refine go [.a,.Z] (k := ?_)
  refine rt1 4 ?_
  refine rb ?_
  simp only [procOk, procS, parentOk, endOk, cpuOk]
  grind only
 try simp only [cnd] at c6
 refine jd (sr2 ?_)
 refine go [.f,.N,.l,.h,.b,.N,.m] (k := ?_)
 apply AWL.cut 5
 ·intro Kg20
  refine AWL.splitF 70 rfl (fun g20 => ?_) (fun g20 => ?_)
  ·have eg20 := g20
   try simp only [cnd] at eg20
   refine go [.f,.l,.N,.h] (k := ?_)
   refine qg (nF g20) (Qt.binOp rfl rfl (by first | exact pbRem4 _ | rfl | exact pbRemI (by omega))) ?_
   refine go [.b,.N] (k := ?_)
   exact wjT 75 [71, 72, 73, 74, 75] (ifF g20 _ undef) Kg20
  ·refine go [.x,.x,.x,.x,.N,.x] (k := ?_)
   exact wjF 75 [71, 72, 73, 74, 75] (ifT g20 undef _) Kg20
 refine qq (Qt.pickOr rfl rfl rfl) ?_
 refine go [.m] (k := ?_)
 apply AWL.cut 4
 ·intro Kg21
  refine AWL.splitF 77 rfl (fun g21 => ?_) (fun g21 => ?_)
  ·have eg21 := g21
   try simp only [cnd] at eg21
   refine go [.f,.N,.l] (k := ?_)
   refine AWL.step rfl (nF g21) (Stp.callV rfl (by decide) Tryz.call153 rfl rfl (wordsOk_con _)) ?_
   refine go [.N,.n] (k := ?_)
   exact wjT 81 [78, 79, 80, 81] (ifF g21 _ undef) Kg21
  ·refine go [.x,.x,.x,.x] (k := ?_)
   exact wjF 81 [78, 79, 80, 81] (ifT g21 undef _) Kg21
 refine qq (Qt.pickOr rfl rfl rfl) ?_
 refine go [.m,.N] (k := ?_)
 apply AWL.cut 4
 ·intro Kg22
  refine AWL.splitF 83 rfl (fun g22 => ?_) (fun g22 => ?_)
  ·have eg22 := g22
   try simp only [cnd] at eg22
   refine go [.f,.l,.h,.N,.b] (k := ?_)
   exact wjT 87 [84, 85, 86, 87] (ifF g22 _ undef) Kg22
  ·refine go [.x,.x,.x,.x] (k := ?_)
   exact wjF 87 [84, 85, 86, 87] (ifT g22 undef _) Kg22
 refine qq (Qt.pickOr rfl rfl rfl) ?_
 refine go [.m,.N] (k := ?_)
 apply AWL.cut 4
 ·intro Kg23
  refine AWL.splitF 89 rfl (fun g23 => ?_) (fun g23 => ?_)
  ·have eg23 := g23
   try simp only [cnd] at eg23
   refine go [.G,.G] (k := ?_)
   refine AWL.step rfl (nF g23) (Stp.callV rfl (by decide) Tryz.call264 rfl rfl (untilOk_con u p)) ?_
   refine go [.N,.n] (k := ?_)
   exact wjT 93 [90, 91, 92, 93] (ifF g23 _ undef) Kg23
  ·refine go [.x,.x,.x,.x] (k := ?_)
   exact wjF 93 [90, 91, 92, 93] (ifT g23 undef _) Kg23
 refine qq (Qt.pickOr rfl rfl rfl) ?_
 refine go [.Z] (k := ?_)
 refine cd (fun c24 => ?_) fun c24 => ?_
 ·try simp only [cnd] at c24
  refine go [.R,.a,.Z] (k := ?_)
  refine rt1 4 ?_
  refine rb ?_
  simp only [procOk, procS, parentOk, endOk, cpuOk]
  grind only
 try simp only [cnd] at c24
 refine jd (sr2 ?_)
 refine go [.f,.N,.l] (k := ?_)
 refine qq Qt.makeFunc ?_
 refine cv Tryz.call255 rfl rfl (Con.simH (hasIU_con u Tryz.call265 (fun x => procOk1_con u x) p.Fds) ⟨⟨_, rfl, tsr⟩, ⟨_, rfl, (sim_one (fun c hc => match c, hc with | 0, _ => tsr | 1, _ => tsr | 2, _ => tsr | 3, _ => tsr | 4, _ => tsr | 5, _ => tsr | 6, _ => tsr | 7, _ => tsr | 8, _ => tsr | c + 9, hc => absurd hc (by simp only [En.n]; omega)))⟩, trivial⟩ rfl rfl rfl) ?_
 refine go [.Z] (k := ?_)
 refine cd (fun c25 => ?_) fun c25 => ?_
 ·try simp only [cnd] at c25
  refine go [.R,.a,.Z] (k := ?_)
  refine rt1 4 ?_
  refine rb ?_
  simp only [procOk, procS, parentOk, endOk, cpuOk]
  grind only
 try simp only [cnd] at c25
 refine jd (sr2 ?_)
 refine go [.f,.N,.l,.b,.Z] (k := ?_)
 refine cd (fun c26 => ?_) fun c26 => ?_
 ·try simp only [cnd] at c26
  refine go [.R,.f,.N,.l,.h,.b,.N,.m] (k := ?_)
  apply AWL.cut 3
  ·intro Kg27
   refine AWL.split 106 rfl (fun g27 => ?_) (fun g27 => ?_)
   ·have eg27 := g27
    try simp only [cnd] at eg27
    refine go [.f,.l,.N,.b] (k := ?_)
    exact wjT 109 [107, 108, 109] (ifT g27 _ undef) Kg27
   ·refine go [.x,.x,.x] (k := ?_)
    exact wjF 109 [107, 108, 109] (ifF g27 undef _) Kg27
  refine qq (Qt.pickAnd rfl rfl rfl) ?_
  refine go [.m,.N] (k := ?_)
  apply AWL.cut 4
  ·intro Kg28
   refine AWL.split 111 rfl (fun g28 => ?_) (fun g28 => ?_)
   ·have eg28 := g28
    try simp only [cnd] at eg28
    refine go [.f,.l] (k := ?_)
    refine AWL.step rfl g28 (Stp.callV rfl (by decide) Tryz.call255 rfl rfl (hasU_con Tryz.call267 (fun x => procOk2_con x) p.Fds)) ?_
    refine go [.N,.n] (k := ?_)
    exact wjT 115 [112, 113, 114, 115] (ifT g28 _ undef) Kg28
   ·refine go [.x,.x,.x,.x] (k := ?_)
    exact wjF 115 [112, 113, 114, 115] (ifF g28 undef _) Kg28
  refine qq (Qt.pickAnd rfl rfl rfl) ?_
  refine go [.a,.Z] (k := ?_)
  refine rt1 4 ?_
  refine rb ?_
  simp only [procOk, procS, parentOk, endOk, cpuOk]
  grind only
 try simp only [cnd] at c26
 refine go [.J,.R,.f,.N,.l,.h,.b,.N,.m] (k := ?_)
 apply AWL.cut 3
 ·intro Kg29
  refine AWL.split 121 rfl (fun g29 => ?_) (fun g29 => ?_)
  ·have eg29 := g29
   try simp only [cnd] at eg29
   refine go [.f,.l,.N,.b] (k := ?_)
   exact wjT 124 [122, 123, 124] (ifT g29 _ undef) Kg29
  ·refine go [.x,.x,.x] (k := ?_)
   exact wjF 124 [122, 123, 124] (ifF g29 undef _) Kg29
 refine qq (Qt.pickAnd rfl rfl rfl) ?_
 refine go [.a,.Z] (k := ?_)
 refine rt1 4 ?_
 refine rb ?_
 simp only [procOk, procS, parentOk, endOk, cpuOk]
 grind only
end Go.Proofs.YthjfgpkjooaahaaGreat.VM

