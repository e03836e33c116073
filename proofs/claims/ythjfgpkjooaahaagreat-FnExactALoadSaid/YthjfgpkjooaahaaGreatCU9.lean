/- Contracts. No conditions. -/
import Derived.Test.YthjfgpkjooaahaaGreatCU7
import Derived.Test.YthjfgpkjooaahaaGreatCU8
set_option linter.all false
set_option maxHeartbeats 8000000
set_option maxRecDepth 10000
namespace Go.Proofs.YthjfgpkjooaahaaGreat.VM
open Go Go.RowKit Go.Proofs
theorem l6Ready_con (u : DUnix) : Con Tryz.prog 141 [.g [.v (iv u.Next), .v (iv u.Tick), .h base [], .h (base + 1) [], .h (base + 2) [], .h (base + 3) [], .h (base + 4) [], .h (base + 5) [], .h (base + 6) []]] [.rt base .ro (tr u.Progs), .rt (base + 1) .ro (tr u.Procs), .rt (base + 2) .ro (tr u.Opens), .rt (base + 3) .ro (tr u.Pipes), .rt (base + 4) .ro (tr u.Files), .rt (base + 5) .ro (tr u.Ready), .rt (base + 6) .ro (tr u.Out)] (fun y _ => y = .v (.bool (readyOk u))) := by
 refine ob Tryz.func141 Tryz.ntmps141 ?_
 refine AW.len (base + 1) [] rfl (by simp [Okp]) rfl (fun hl1 => ?_)
 rw [readyOk_eq]
 refine go [.R,.B,.N,.a,.Z,.R,.a,.Z,.R2,.a,.Z] (k := ?_)
 refine AW.block ?_
 refine AW.loopW (fun i : AIx (readyP u) u.Procs.length => [.sl 4 (.v (iv i.k)), .sl 3 (.v (iv (readyN u.Procs i.k : Nat))), .rt 1 .box (T.s 9 1 fun k c => ([(T.v (iv u.Next), none), (T.v (iv u.Tick), none), (T.j, none), (T.j, none), (T.j, none), (T.j, none), (T.j, none), (T.j, none), (T.j, none)].getD (k * 9 + c) (T.j, none)).fst), .al 1 2 (.h base []), .al 1 3 (.h (base + 1) []), .al 1 4 (.h (base + 2) []), .al 1 5 (.h (base + 3) []), .al 1 6 (.h (base + 4) []), .al 1 7 (.h (base + 5) []), .al 1 8 (.h (base + 6) []), .rt base .ro (tr u.Progs), .rt (base + 1) .ro (tr u.Procs), .rt (base + 2) .ro (tr u.Opens), .rt (base + 3) .ro (tr u.Pipes), .rt (base + 4) .ro (tr u.Files), .rt (base + 5) .ro (tr u.Ready), .rt (base + 6) .ro (tr u.Out), .sl 1 (.p 1 [] 9 0 0)]) (fun i => u.Procs.length - i.k) ⟨0, Nat.zero_le _, fun _ h => absurd h (Nat.not_lt_zero _)⟩ (ws) ?_
 intro i
 have hle := i.le
 have hTi : ((i.k : Int) - 1).toNat = i.k - 1 := by omega
 have hm := readyN_le u.Procs i.k
 have hs1 := readyN_succ u.Procs i.k
 refine go [.R2,.m,.N,.f,.l,.h,.N,.b,.Z] (k := ?_)
 refine cd (fun c1 => ?_) fun c1 => ?_
 ·try simp only [cnd] at c1
  refine jd (AW.seq (AW.block (sr ?_)))
  refine go [.f,.l,.N,.m,.i,.f,.N,.l,.b,.Z] (k := ?_)
  refine cd (fun c2 => ?_) fun c2 => ?_
  ·try simp only [cnd] at c2
   refine go [.R,.m,.N,.b,.a,.Z] (k := ?_)
   refine AW.seq ?_
   refine go [.D [0, 1, 2, 3, 4, 5, 6, 7, 9],.t 0,.f,.N,.t 1,.l,.t 2,.f,.t 3,.l,.N,.t 4,.m,.t 5,.i,.t 6,.f,.N,.t 7,.l] (k := ?_)
   refine a1 8 [] [7, 1, 6, 0, 5, 4, 3, 2] rfl rfl (Stp.callV rfl (by decide) Tryz.call248 rfl rfl (l6Has_con _ _)) ?_
   refine go [.N,.t 9,.n,.Z] (k := ?_)
   refine cd (fun c3 => ?_) fun c3 => ?_
   ·try simp only [cnd] at c3
    have hS := i.stop (by omega) (show (readyP u) i.k = false by simp only [readyP]; grind only)
    refine go [.R,.a,.Z] (k := ?_)
    refine rt1 2 ?_
    refine rb ?_
    grind only
   try simp only [cnd] at c3
   refine go [.J,.R1,.m,.N,.b,.a,.Z] (k := ?_)
   refine ⟨⟨i.k + 1, by omega, i.next (show (readyP u) i.k = true by simp only [readyP]; grind only)⟩, Weak.sim ⟨st1, by simp only [slotL, reduceIte, Nat.reduceEqDiff]; congr 2; rw [hs1]; grind only, Rf rfl, ⟨rfl, rfl⟩, ⟨rfl, rfl⟩, ⟨rfl, rfl⟩, ⟨rfl, rfl⟩, ⟨rfl, rfl⟩, ⟨rfl, rfl⟩, ⟨rfl, rfl⟩, Rf rfl, Rf rfl, Rf rfl, Rf rfl, Rf rfl, Rf rfl, Rf rfl, rfl, trivial⟩ rfl rfl, ?_⟩
   show u.Procs.length - (i.k + 1) < u.Procs.length - i.k
   omega
  try simp only [cnd] at c2
  refine go [.J,.R1,.m,.N,.b,.a,.Z] (k := ?_)
  refine ⟨⟨i.k + 1, by omega, i.next (show (readyP u) i.k = true by simp only [readyP]; grind only)⟩, Weak.sim ⟨st1, by simp only [slotL, reduceIte, Nat.reduceEqDiff]; congr 2; rw [hs1]; grind only, Rf rfl, ⟨rfl, rfl⟩, ⟨rfl, rfl⟩, ⟨rfl, rfl⟩, ⟨rfl, rfl⟩, ⟨rfl, rfl⟩, ⟨rfl, rfl⟩, ⟨rfl, rfl⟩, Rf rfl, Rf rfl, Rf rfl, Rf rfl, Rf rfl, Rf rfl, Rf rfl, rfl, trivial⟩ rfl rfl, ?_⟩
  show u.Procs.length - (i.k + 1) < u.Procs.length - i.k
  omega
 try simp only [cnd] at c1
 have hA := i.full (by omega)
 have hR : readyN u.Procs i.k = readyN u.Procs u.Procs.length := congrArg (readyN u.Procs) (show i.k = u.Procs.length by omega)
 refine AW.exit ?_
 dsimp only [thenQ, blockQ, reduceIte]
 refine go [.R,.m,.N,.f,.l,.h,.N,.b,.a,.Z] (k := ?_)
 refine rt1 2 ?_
 refine rb ?_
 grind only
theorem UnixOkS_con (u : DUnix) (hb : unixB u) : Con Tryz.prog 35 [.g [.v (iv u.Next), .v (iv u.Tick), .h base [], .h (base + 1) [], .h (base + 2) [], .h (base + 3) [], .h (base + 4) [], .h (base + 5) [], .h (base + 6) []]] [.rt base .ro (tr u.Progs), .rt (base + 1) .ro (tr u.Procs), .rt (base + 2) .ro (tr u.Opens), .rt (base + 3) .ro (tr u.Pipes), .rt (base + 4) .ro (tr u.Files), .rt (base + 5) .ro (tr u.Ready), .rt (base + 6) .ro (tr u.Out)] (fun y _ => y = .v (.bool (unixOk u))) := by
 refine ob Tryz.func35 Tryz.ntmps35 ?_
 refine AW.len (base + 1) [] rfl (by simp [Okp]) rfl (fun hl1 => ?_)
 have hpb := pagesU_bd hb
 refine go [.R,.B,.N,.a,.Z,.R2,.f,.l,.N] (k := ?_)
 refine cv Tryz.call135 rfl rfl (l1InU_con _ _ _) ?_
 refine go [.N,.n,.m] (k := ?_)
 apply AWL.cut 4
 ·intro Kg1
  refine AWL.splitF 9 rfl (fun g1 => ?_) (fun g1 => ?_)
  ·refine go [.f,.N,.l] (k := ?_)
   refine AWL.step rfl (nF g1) (Stp.callV rfl (by decide) Tryz.call135 rfl rfl (l1InU_con _ _ _)) ?_
   refine go [.N,.n] (k := ?_)
   exact wjT 13 [10, 11, 12, 13] (ifF g1 _ undef) Kg1
  ·refine go [.x,.x,.x,.x] (k := ?_)
   exact wjF 13 [10, 11, 12, 13] (ifT g1 undef _) Kg1
 refine qq (Qt.pickOr rfl rfl rfl) ?_
 refine go [.m,.N] (k := ?_)
 apply AWL.cut 4
 ·intro Kg2
  refine AWL.splitF 15 rfl (fun g2 => ?_) (fun g2 => ?_)
  ·refine go [.f,.l] (k := ?_)
   refine AWL.step rfl (nF g2) (Stp.callV rfl (by decide) Tryz.call136 rfl rfl (l6Progs_con _)) ?_
   refine go [.N,.n] (k := ?_)
   exact wjT 19 [16, 17, 18, 19] (ifF g2 _ undef) Kg2
  ·refine go [.x,.x,.x,.x] (k := ?_)
   exact wjF 19 [16, 17, 18, 19] (ifT g2 undef _) Kg2
 refine qq (Qt.pickOr rfl rfl rfl) ?_
 refine go [.m,.N] (k := ?_)
 apply AWL.cut 4
 ·intro Kg3
  refine AWL.splitF 21 rfl (fun g3 => ?_) (fun g3 => ?_)
  ·refine go [.f,.l,.h,.N,.b] (k := ?_)
   exact wjT 25 [22, 23, 24, 25] (ifF g3 _ undef) Kg3
  ·refine go [.x,.x,.x,.x] (k := ?_)
   exact wjF 25 [22, 23, 24, 25] (ifT g3 undef _) Kg3
 refine qq (Qt.pickOr rfl rfl rfl) ?_
 refine go [.m,.N] (k := ?_)
 apply AWL.cut 4
 ·intro Kg4
  refine AWL.splitF 27 rfl (fun g4 => ?_) (fun g4 => ?_)
  ·refine go [.f,.l] (k := ?_)
   refine AWL.step rfl (nF g4) (Stp.callV rfl (by decide) Tryz.call137 rfl rfl (l5Words_con _)) ?_
   refine go [.N,.n] (k := ?_)
   exact wjT 31 [28, 29, 30, 31] (ifF g4 _ undef) Kg4
  ·refine go [.x,.x,.x,.x] (k := ?_)
   exact wjF 31 [28, 29, 30, 31] (ifT g4 undef _) Kg4
 refine qq (Qt.pickOr rfl rfl rfl) ?_
 refine go [.m,.N] (k := ?_)
 apply AWL.cut 4
 ·intro Kg5
  refine AWL.splitF 33 rfl (fun g5 => ?_) (fun g5 => ?_)
  ·refine go [.f,.l,.h,.N,.b] (k := ?_)
   exact wjT 37 [34, 35, 36, 37] (ifF g5 _ undef) Kg5
  ·refine go [.x,.x,.x,.x] (k := ?_)
   exact wjF 37 [34, 35, 36, 37] (ifT g5 undef _) Kg5
 refine qq (Qt.pickOr rfl rfl rfl) ?_
 refine go [.m,.N] (k := ?_)
 apply AWL.cut 3
 ·intro Kg6
  refine AWL.splitF 39 rfl (fun g6 => ?_) (fun g6 => ?_)
  ·refine go [.G] (k := ?_)
   refine AWL.step rfl (nF g6) (Stp.callV rfl (by decide) Tryz.call138 rfl rfl (l6Pages_con u hb)) ?_
   refine go [.N,.b] (k := ?_)
   exact wjT 42 [40, 41, 42] (ifF g6 _ undef) Kg6
  ·refine go [.x,.x,.x] (k := ?_)
   exact wjF 42 [40, 41, 42] (ifT g6 undef _) Kg6
 refine qq (Qt.pickOr rfl rfl rfl) ?_
 refine go [.Z] (k := ?_)
 refine cd (fun c7 => ?_) fun c7 => ?_
 ·try simp only [cnd] at c7
  refine go [.R,.a,.Z] (k := ?_)
  refine rt1 2 ?_
  refine rb ?_
  simp only [unixOk, headOk, thingsOk, procsOk_eq]
  grind only
 try simp only [cnd] at c7
 refine jd (sr2 ?_)
 refine go [.a,.Z] (k := ?_)
 refine AW.block ?_
 refine AW.loopW (fun i : AIx (procU u) u.Procs.length => [.sl 3 (.v (iv i.k)), .rt 1 .box (T.s 9 1 fun k c => ([(T.v (iv u.Next), none), (T.v (iv u.Tick), none), (T.j, none), (T.j, none), (T.j, none), (T.j, none), (T.j, none), (T.j, none), (T.j, none)].getD (k * 9 + c) (T.j, none)).fst), .al 1 2 (.h base []), .al 1 3 (.h (base + 1) []), .al 1 4 (.h (base + 2) []), .al 1 5 (.h (base + 3) []), .al 1 6 (.h (base + 4) []), .al 1 7 (.h (base + 5) []), .al 1 8 (.h (base + 6) []), .rt base .ro (tr u.Progs), .rt (base + 1) .ro (tr u.Procs), .rt (base + 2) .ro (tr u.Opens), .rt (base + 3) .ro (tr u.Pipes), .rt (base + 4) .ro (tr u.Files), .rt (base + 5) .ro (tr u.Ready), .rt (base + 6) .ro (tr u.Out), .sl 1 (.p 1 [] 9 0 0)]) (fun i => u.Procs.length - i.k) ⟨0, Nat.zero_le _, fun _ h => absurd h (Nat.not_lt_zero _)⟩ (ws) ?_
 intro i
 have hle := i.le
 have hTi : ((i.k : Int) - 1).toNat = i.k - 1 := by omega
 refine go [.R2,.m,.N,.f,.l,.h,.N,.b,.Z] (k := ?_)
 refine cd (fun c8 => ?_) fun c8 => ?_
 ·try simp only [cnd] at c8
  refine jd (AW.seq (AW.block (sr ?_)))
  refine go [.f,.l,.N,.m,.i,.G,.N,.A,.N,.s,.Z] (k := ?_)
  refine AW.seq ?_
  refine go [.D [0, 1, 2, 3, 4, 6, 7, 8, 9, 10, 11, 12, 13, 14, 15, 16, 17, 18, 19, 20, 21, 22, 23, 24, 25, 27, 28],.t 0,.f,.N,.t 1,.l,.t 2,.f,.t 3,.l,.N,.t 4,.b] (k := ?_)
  refine a1 5 [] [4, 1, 3, 0, 2] rfl rfl (Stp.callV rfl (by decide) Tryz.call135 rfl rfl (l1InU_con _ _ _)) ?_
  refine go [.N,.t 6,.n,.t 7,.m] (k := ?_)
  refine AWA.split 63 rfl (fun g9 => ?_) (fun g9 => ?_)
  ·refine go [.t 8,.x,.N,.t 9,.x,.t 10,.x,.t 11,.x,.N,.t 12,.x,.t 13,.x,.t 14,.x,.N,.t 15,.x,.t 16,.x,.t 17,.x,.N,.t 18,.x,.t 19,.x,.t 20,.x,.N,.t 21,.x] (k := ?_)
   refine tk 22 rfl (Qt.pickT rfl g9) ?_
   refine go [.t 23,.m,.N] (k := ?_)
   refine AWA.split 79 rfl (fun g10 => ?_) (fun g10 => ?_)
   ·refine go [.t 24,.x,.t 25,.x,.O 26 [] [25, 24, 23, 22, 10, 21, 7, 9, 20, 6, 5, 8, 19, 17, 4, 1, 18, 16, 3, 0, 15, 2, 14, 12, 13, 11],.x,.N,.t 27,.x] (k := ?_)
    refine tk 28 rfl (Qt.pickT rfl g10) ?_
    refine go [.Z] (k := ?_)
    refine cd (fun c11 => ?_) fun c11 => ?_
    ·try simp only [cnd] at c11
     have hS := i.stop (by omega) (show (procU u) i.k = false by simp only [procU, rises, pidOf, procOk]; grind only)
     refine go [.R,.a,.Z] (k := ?_)
     refine rt1 2 ?_
     refine rb ?_
     simp only [unixOk, headOk, thingsOk, procsOk_eq]
     grind only
    try simp only [cnd] at c11
    refine go [.J,.R1,.m,.N,.b,.a,.Z] (k := ?_)
    refine ⟨⟨i.k + 1, by omega, i.next (show (procU u) i.k = true by simp only [procU, rises, pidOf, procOk]; grind only)⟩, ws, ?_⟩
    show u.Procs.length - (i.k + 1) < u.Procs.length - i.k
    omega
   refine go [.t 24,.G,.N,.t 25,.G] (k := ?_)
   refine a1 26 [] [25, 24, 23, 22, 10, 21, 7, 9, 20, 6, 5, 8, 19, 17, 4, 1, 18, 16, 3, 0, 15, 2, 14, 12, 13, 11] rfl (nF g10) (Stp.callV rfl (by decide) Tryz.call139 rfl rfl (l6ProcOk_con u _)) ?_
   refine go [.N,.t 27,.n] (k := ?_)
   refine tk 28 rfl (Qt.pickF rfl g10) ?_
   refine go [.Z] (k := ?_)
   refine cd (fun c12 => ?_) fun c12 => ?_
   ·try simp only [cnd] at c12
    have hS := i.stop (by omega) (show (procU u) i.k = false by simp only [procU, rises, pidOf, procOk]; grind only)
    refine go [.R,.a,.Z] (k := ?_)
    refine rt1 2 ?_
    refine rb ?_
    simp only [unixOk, headOk, thingsOk, procsOk_eq]
    grind only
   try simp only [cnd] at c12
   refine go [.J,.R1,.m,.N,.b,.a,.Z] (k := ?_)
   refine ⟨⟨i.k + 1, by omega, i.next (show (procU u) i.k = true by simp only [procU, rises, pidOf, procOk]; grind only)⟩, ws, ?_⟩
   show u.Procs.length - (i.k + 1) < u.Procs.length - i.k
   omega
  refine go [.t 8,.m,.N,.t 9,.b,.t 10,.m] (k := ?_)
  refine AWA.split 66 rfl (fun g13 => ?_) (fun g13 => ?_)
  ·refine go [.t 11,.f,.N,.t 12,.l,.t 13,.m,.t 14,.b,.N,.t 15,.i,.t 16,.f,.t 17,.l,.N,.t 18,.f,.t 19,.l,.t 20,.b,.N] (k := ?_)
   refine tg 21 rfl (nF g9) (Qt.pickT rfl g13) ?_
   refine tk 22 rfl (Qt.pickF rfl g9) ?_
   refine go [.t 23,.m,.N] (k := ?_)
   refine AWA.split 79 rfl (fun g14 => ?_) (fun g14 => ?_)
   ·refine go [.t 24,.x,.t 25,.x,.O 26 [] [25, 24, 23, 22, 10, 21, 7, 9, 20, 6, 5, 8, 19, 17, 4, 1, 18, 16, 3, 0, 15, 2, 14, 12, 13, 11],.x,.N,.t 27,.x] (k := ?_)
    refine tk 28 rfl (Qt.pickT rfl g14) ?_
    refine go [.Z] (k := ?_)
    refine cd (fun c15 => ?_) fun c15 => ?_
    ·try simp only [cnd] at c15
     have hS := i.stop (by omega) (show (procU u) i.k = false by simp only [procU, rises, pidOf, procOk]; grind only)
     refine go [.R,.a,.Z] (k := ?_)
     refine rt1 2 ?_
     refine rb ?_
     simp only [unixOk, headOk, thingsOk, procsOk_eq]
     grind only
    try simp only [cnd] at c15
    refine go [.J,.R1,.m,.N,.b,.a,.Z] (k := ?_)
    refine ⟨⟨i.k + 1, by omega, i.next (show (procU u) i.k = true by simp only [procU, rises, pidOf, procOk]; grind only)⟩, ws, ?_⟩
    show u.Procs.length - (i.k + 1) < u.Procs.length - i.k
    omega
   refine go [.t 24,.G,.N,.t 25,.G] (k := ?_)
   refine a1 26 [] [25, 24, 23, 22, 10, 21, 7, 9, 20, 6, 5, 8, 19, 17, 4, 1, 18, 16, 3, 0, 15, 2, 14, 12, 13, 11] rfl (nF g14) (Stp.callV rfl (by decide) Tryz.call139 rfl rfl (l6ProcOk_con u _)) ?_
   refine go [.N,.t 27,.n] (k := ?_)
   refine tk 28 rfl (Qt.pickF rfl g14) ?_
   refine go [.Z] (k := ?_)
   refine cd (fun c16 => ?_) fun c16 => ?_
   ·try simp only [cnd] at c16
    have hS := i.stop (by omega) (show (procU u) i.k = false by simp only [procU, rises, pidOf, procOk]; grind only)
    refine go [.R,.a,.Z] (k := ?_)
    refine rt1 2 ?_
    refine rb ?_
    simp only [unixOk, headOk, thingsOk, procsOk_eq]
    grind only
   try simp only [cnd] at c16
   refine go [.J,.R1,.m,.N,.b,.a,.Z] (k := ?_)
   refine ⟨⟨i.k + 1, by omega, i.next (show (procU u) i.k = true by simp only [procU, rises, pidOf, procOk]; grind only)⟩, ws, ?_⟩
   show u.Procs.length - (i.k + 1) < u.Procs.length - i.k
   omega
  refine go [.t 11,.x,.N,.t 12,.x,.t 13,.x,.t 14,.x,.N,.t 15,.x,.t 16,.x,.t 17,.x,.N,.t 18,.x,.t 19,.x,.t 20,.x,.N] (k := ?_)
  refine tg 21 rfl (nF g9) (Qt.pickF rfl g13) ?_
  refine tk 22 rfl (Qt.pickF rfl g9) ?_
  refine go [.t 23,.m,.N] (k := ?_)
  refine AWA.split 79 rfl (fun g17 => ?_) (fun g17 => ?_)
  ·refine go [.t 24,.x,.t 25,.x,.O 26 [] [25, 24, 23, 22, 10, 21, 7, 9, 20, 6, 5, 8, 19, 17, 4, 1, 18, 16, 3, 0, 15, 2, 14, 12, 13, 11],.x,.N,.t 27,.x] (k := ?_)
   refine tk 28 rfl (Qt.pickT rfl g17) ?_
   refine go [.Z] (k := ?_)
   refine cd (fun c18 => ?_) fun c18 => ?_
   ·try simp only [cnd] at c18
    have hS := i.stop (by omega) (show (procU u) i.k = false by simp only [procU, rises, pidOf, procOk]; grind only)
    refine go [.R,.a,.Z] (k := ?_)
    refine rt1 2 ?_
    refine rb ?_
    simp only [unixOk, headOk, thingsOk, procsOk_eq]
    grind only
   try simp only [cnd] at c18
   refine go [.J,.R1,.m,.N,.b,.a,.Z] (k := ?_)
   refine ⟨⟨i.k + 1, by omega, i.next (show (procU u) i.k = true by simp only [procU, rises, pidOf, procOk]; grind only)⟩, ws, ?_⟩
   show u.Procs.length - (i.k + 1) < u.Procs.length - i.k
   omega
  refine go [.t 24,.G,.N,.t 25,.G] (k := ?_)
  refine a1 26 [] [25, 24, 23, 22, 10, 21, 7, 9, 20, 6, 5, 8, 19, 17, 4, 1, 18, 16, 3, 0, 15, 2, 14, 12, 13, 11] rfl (nF g17) (Stp.callV rfl (by decide) Tryz.call139 rfl rfl (l6ProcOk_con u _)) ?_
  refine go [.N,.t 27,.n] (k := ?_)
  refine tk 28 rfl (Qt.pickF rfl g17) ?_
  refine go [.Z] (k := ?_)
  refine cd (fun c19 => ?_) fun c19 => ?_
  ·try simp only [cnd] at c19
   have hS := i.stop (by omega) (show (procU u) i.k = false by simp only [procU, rises, pidOf, procOk]; grind only)
   refine go [.R,.a,.Z] (k := ?_)
   refine rt1 2 ?_
   refine rb ?_
   simp only [unixOk, headOk, thingsOk, procsOk_eq]
   grind only
  try simp only [cnd] at c19
  refine go [.J,.R1,.m,.N,.b,.a,.Z] (k := ?_)
  refine ⟨⟨i.k + 1, by omega, i.next (show (procU u) i.k = true by simp only [procU, rises, pidOf, procOk]; grind only)⟩, ws, ?_⟩
  show u.Procs.length - (i.k + 1) < u.Procs.length - i.k
  omega
 try simp only [cnd] at c8
 have hA := i.full (by omega)
 refine AW.exit ?_
 dsimp only [thenQ, blockQ, reduceIte]
 refine go [.R,.G,.N] (k := ?_)
 refine cv Tryz.call140 rfl rfl (l6Things_con u hb) ?_
 refine go [.N,.m] (k := ?_)
 apply AWL.cut 2
 ·intro Kg20
  refine AWL.split 87 rfl (fun g20 => ?_) (fun g20 => ?_)
  ·refine go [.G] (k := ?_)
   refine AWL.step rfl g20 (Stp.callV rfl (by decide) Tryz.call141 rfl rfl (l6Ready_con u)) ?_
   refine go [.N] (k := ?_)
   exact wjT 89 [88, 89] (ifT g20 _ undef) Kg20
  ·refine go [.x,.x] (k := ?_)
   exact wjF 89 [88, 89] (ifF g20 undef _) Kg20
 refine qq (Qt.pickAnd rfl rfl rfl) ?_
 refine go [.a,.Z] (k := ?_)
 refine rt1 2 ?_
 refine rb ?_
 simp only [unixOk, headOk, thingsOk, procsOk_eq]
 grind only
end Go.Proofs.YthjfgpkjooaahaaGreat.VM

