/- Contracts. No conditions. -/
import Derived.Test.YthjfgpkjooaahaaGreatCUE
import Derived.Test.YthjfgpkjooaahaaGreatCU9
set_option linter.all false
set_option maxHeartbeats 8000000
set_option maxRecDepth 10000
namespace Go.Proofs.YthjfgpkjooaahaaGreat.VM
open Go Go.RowKit Go.Proofs
theorem unixOk1_con (p : List DIns) : Con Tryz.prog 155 [.h base []] [.rt base .ro (tr p)] (fun y _ => y = .v (.bool (!(progOk p)))) := by
 refine ob Tryz.func155 Tryz.ntmps155 ?_
 refine go [.R,.a,.Z,.R,.m] (k := ?_)
 refine cv Tryz.call156 rfl rfl (ProgOkI_con _) ?_
 refine go [.N,.n,.a,.Z] (k := ?_)
 refine rt1 2 ?_
 rfl
theorem ixPG_con {fid : FuncId} {p : (List DIns) → Bool} (hE : Ent Tryz.prog fid) (hp : ∀ x : List DIns, Con Tryz.prog fid [.h base []] [.rt base .ro (tr x)] (fun y _ => y = .v (.bool (p x)))) (l : List (List DIns)) : Con Tryz.prog 258 [.h base [], .f fid []] [.rt base .ro (tr l)] (fun y _ => y = .v (iv (ixOf p l))) := by
 refine ob Tryz.func258 Tryz.ntmps258 ?_
 refine AW.len base [] rfl (by simp [Okp]) rfl (fun hl => ?_)
 refine go [.R,.a,.Z,.R2,.m,.h,.N,.m,.Z] (k := ?_)
 refine AW.block ?_
 refine AW.loopW (fun i : IxInv p l => [.sl 8 (.v (iv i.k)), .sl 7 (.v (iv l.length)), .sl 0 (.h base []), .sl 1 (.f fid []), .rt base .ro (tr l)]) (fun i => l.length - i.k) ⟨0, Nat.zero_le _, rfl⟩ (ws) ?_
 intro i
 have hle := i.le
 refine go [.R,.b,.Z] (k := ?_)
 refine AW.seq ?_
 refine cd (fun c1 => ?_) fun c1 => ?_
 ·try simp only [cnd] at c1
  refine jd (AW.seq (AW.block (sr ?_)))
  refine go [.m,.N,.a,.Z,.R,.m,.m,.N,.m,.i,.l,.N] (k := ?_)
  refine cv hE rfl rfl (hp (l.getD i.k En.dflt)) ?_
  refine go [.Z] (k := ?_)
  refine cd (fun c2 => ?_) fun c2 => ?_
  ·try simp only [cnd] at c2
   refine go [.R,.m,.N,.a,.Z] (k := ?_)
   refine rt1 4 ?_
   rw [ixOf_hit i En.dflt (by omega) c2]
   rfl
  try simp only [cnd] at c2
  refine go [.J,.R1,.b,.m,.Z] (k := ?_)
  refine ⟨⟨i.k + 1, by omega, i.next En.dflt (by omega) c2⟩, ws, ?_⟩
  show l.length - (i.k + 1) < l.length - i.k
  omega
 try simp only [cnd] at c1
 refine AW.exit ?_
 dsimp only [thenQ, blockQ, reduceIte]
 refine go [.R,.a,.Z] (k := ?_)
 refine rt1 4 ?_
 rw [ixOf_none i (by omega)]
 rfl
theorem hasPG_con {fid : FuncId} {p : (List DIns) → Bool} (hE : Ent Tryz.prog fid) (hp : ∀ x : List DIns, Con Tryz.prog fid [.h base []] [.rt base .ro (tr x)] (fun y _ => y = .v (.bool (p x)))) (l : List (List DIns)) : Con Tryz.prog 154 [.h base [], .f fid []] [.rt base .ro (tr l)] (fun y _ => y = .v (.bool (l.any p))) := by
 refine ob Tryz.func154 Tryz.ntmps154 ?_
 refine go [.R,.a,.Z,.R,.m,.m,.N] (k := ?_)
 refine cv Tryz.call258 rfl rfl (ixPG_con hE hp _) ?_
 refine go [.N,.b,.a,.Z] (k := ?_)
 refine rt1 4 ?_
 rw [← ixOf_ge]
 rfl
theorem any_pg (l : List (List DIns)) : (l.any fun x => !(progOk x)) = !(l.all progOk) := by rw [Bool.eq_iff_iff]; simp
theorem UnixOkI_con (u : DUnix) (hb : unixB u) : Con Tryz.prog 43 [.g [.v (iv u.Next), .v (iv u.Tick), .h base [], .h (base + 1) [], .h (base + 2) [], .h (base + 3) [], .h (base + 4) [], .h (base + 5) [], .h (base + 6) []]] [.rt base .ro (tr u.Progs), .rt (base + 1) .ro (tr u.Procs), .rt (base + 2) .ro (tr u.Opens), .rt (base + 3) .ro (tr u.Pipes), .rt (base + 4) .ro (tr u.Files), .rt (base + 5) .ro (tr u.Ready), .rt (base + 6) .ro (tr u.Out)] (fun y _ => y = .v (.bool (unixOk u))) := by
 refine ob Tryz.func43 Tryz.ntmps43 ?_
 refine AW.len (base + 1) [] rfl (by simp [Okp]) rfl (fun hl1 => ?_)
 refine AW.len (base + 2) [] rfl (by simp [Okp]) rfl (fun hl2 => ?_)
 have hap := any_pg u.Progs
 have hmb := hb.mem
 refine go [.R,.B,.N,.a,.Z,.R2,.f,.l,.N] (k := ?_)
 refine cv Tryz.call152 rfl rfl (inU_con _ _ _) ?_
 refine go [.N,.n,.m] (k := ?_)
 apply AWL.cut 4
 ·intro Kg1
  refine AWL.splitF 11 rfl (fun g1 => ?_) (fun g1 => ?_)
  ·refine go [.f,.N,.l] (k := ?_)
   refine AWL.step rfl (nF g1) (Stp.callV rfl (by decide) Tryz.call152 rfl rfl (inU_con _ _ _)) ?_
   refine go [.N,.n] (k := ?_)
   exact wjT 15 [12, 13, 14, 15] (ifF g1 _ undef) Kg1
  ·refine go [.x,.x,.x,.x] (k := ?_)
   exact wjF 15 [12, 13, 14, 15] (ifT g1 undef _) Kg1
 refine qq (Qt.pickOr rfl rfl rfl) ?_
 refine go [.m,.N] (k := ?_)
 apply AWL.cut 5
 ·intro Kg2
  refine AWL.splitF 17 rfl (fun g2 => ?_) (fun g2 => ?_)
  ·refine go [.f,.l,.h,.N] (k := ?_)
   refine AWL.step rfl (nF g2) (Stp.callV rfl (by decide) Tryz.call152 rfl rfl (inU_con _ _ _)) ?_
   refine go [.N,.n] (k := ?_)
   exact wjT 22 [18, 19, 20, 21, 22] (ifF g2 _ undef) Kg2
  ·refine go [.x,.x,.x,.x,.N,.x] (k := ?_)
   exact wjF 22 [18, 19, 20, 21, 22] (ifT g2 undef _) Kg2
 refine qq (Qt.pickOr rfl rfl rfl) ?_
 refine go [.m,.N] (k := ?_)
 apply AWL.cut 4
 ·intro Kg3
  refine AWL.splitF 24 rfl (fun g3 => ?_) (fun g3 => ?_)
  ·refine go [.f,.l,.h,.N,.b] (k := ?_)
   exact wjT 28 [25, 26, 27, 28] (ifF g3 _ undef) Kg3
  ·refine go [.x,.x,.x,.x] (k := ?_)
   exact wjF 28 [25, 26, 27, 28] (ifT g3 undef _) Kg3
 refine qq (Qt.pickOr rfl rfl rfl) ?_
 refine go [.m,.N] (k := ?_)
 apply AWL.cut 4
 ·intro Kg4
  refine AWL.splitF 30 rfl (fun g4 => ?_) (fun g4 => ?_)
  ·refine go [.f,.l] (k := ?_)
   refine AWL.step rfl (nF g4) (Stp.callV rfl (by decide) Tryz.call153 rfl rfl (wordsOk_con _)) ?_
   refine go [.N,.n] (k := ?_)
   exact wjT 34 [31, 32, 33, 34] (ifF g4 _ undef) Kg4
  ·refine go [.x,.x,.x,.x] (k := ?_)
   exact wjF 34 [31, 32, 33, 34] (ifT g4 undef _) Kg4
 refine qq (Qt.pickOr rfl rfl rfl) ?_
 refine go [.Z] (k := ?_)
 refine cd (fun c5 => ?_) fun c5 => ?_
 ·try simp only [cnd] at c5
  refine go [.R,.a,.Z] (k := ?_)
  refine rt1 2 ?_
  refine rb ?_
  simp only [unixOk, headOk, progsOk, procsOk_eq, opensOk_eq]
  grind only
 try simp only [cnd] at c5
 refine jd (sr2 ?_)
 refine go [.f,.N,.l] (k := ?_)
 refine cv Tryz.call154 rfl rfl (hasPG_con Tryz.call155 (fun x => unixOk1_con x) u.Progs) ?_
 refine go [.N,.m] (k := ?_)
 apply AWL.cut 4
 ·intro Kg6
  refine AWL.splitF 39 rfl (fun g6 => ?_) (fun g6 => ?_)
  ·refine go [.f,.l,.N,.h,.b] (k := ?_)
   exact wjT 43 [40, 41, 42, 43] (ifF g6 _ undef) Kg6
  ·refine go [.x,.x,.x,.x] (k := ?_)
   exact wjF 43 [40, 41, 42, 43] (ifT g6 undef _) Kg6
 refine qq (Qt.pickOr rfl rfl rfl) ?_
 refine go [.N,.m] (k := ?_)
 apply AWL.cut 4
 ·intro Kg7
  refine AWL.splitF 45 rfl (fun g7 => ?_) (fun g7 => ?_)
  ·refine go [.f,.l,.N,.h,.b] (k := ?_)
   exact wjT 49 [46, 47, 48, 49] (ifF g7 _ undef) Kg7
  ·refine go [.x,.x,.x,.x] (k := ?_)
   exact wjF 49 [46, 47, 48, 49] (ifT g7 undef _) Kg7
 refine qq (Qt.pickOr rfl rfl rfl) ?_
 refine go [.Z] (k := ?_)
 refine cd (fun c8 => ?_) fun c8 => ?_
 ·try simp only [cnd] at c8
  refine go [.R,.a,.Z] (k := ?_)
  refine rt1 2 ?_
  refine rb ?_
  simp only [unixOk, headOk, progsOk, procsOk_eq, opensOk_eq]
  grind only
 try simp only [cnd] at c8
 refine jd (sr2 ?_)
 refine go [.f,.N,.l,.h,.m,.Z] (k := ?_)
 refine AW.block ?_
 refine AW.loopW (fun i : AIx (procU u) u.Procs.length => [.sl 54 (.v (iv i.k)), .rt 1 .box (T.s 9 1 fun k c => ([(T.v (iv u.Next), none), (T.v (iv u.Tick), none), (T.j, none), (T.j, none), (T.j, none), (T.j, none), (T.j, none), (T.j, none), (T.j, none)].getD (k * 9 + c) (T.j, none)).fst), .al 1 2 (.h base []), .al 1 3 (.h (base + 1) []), .al 1 4 (.h (base + 2) []), .al 1 5 (.h (base + 3) []), .al 1 6 (.h (base + 4) []), .al 1 7 (.h (base + 5) []), .al 1 8 (.h (base + 6) []), .rt base .ro (tr u.Progs), .rt (base + 1) .ro (tr u.Procs), .rt (base + 2) .ro (tr u.Opens), .rt (base + 3) .ro (tr u.Pipes), .rt (base + 4) .ro (tr u.Files), .rt (base + 5) .ro (tr u.Ready), .rt (base + 6) .ro (tr u.Out), .sl 1 (.p 1 [] 9 0 0), .sl 52 (.h (base + 1) []), .sl 53 (.v (iv u.Procs.length))]) (fun i => u.Procs.length - i.k) ⟨0, Nat.zero_le _, fun _ h => absurd h (Nat.not_lt_zero _)⟩ (ws) ?_
 intro i
 have hle := i.le
 have hTi : ((i.k : Int) - 1).toNat = i.k - 1 := by omega
 refine go [.R,.b,.Z] (k := ?_)
 refine AW.seq ?_
 refine cd (fun c9 => ?_) fun c9 => ?_
 ·try simp only [cnd] at c9
  refine jd (AW.seq (AW.block (sr ?_)))
  refine go [.m,.N,.i,.G,.A,.N,.a,.s,.Z] (k := ?_)
  refine AW.seq ?_
  refine go [.D [0, 1, 2, 3, 4, 5, 6, 7, 8, 9, 10, 11, 12, 13, 14, 15, 16, 18, 19],.t 0,.m,.N,.t 1,.b,.t 2,.m] (k := ?_)
  refine AWA.split 61 rfl (fun g10 => ?_) (fun g10 => ?_)
  ·refine go [.t 3,.f,.N,.t 4,.l,.t 5,.m,.t 6,.b,.N,.t 7,.i,.t 8,.f,.t 9,.l,.N,.t 10,.f,.t 11,.l,.t 12,.b,.N] (k := ?_)
   refine tk 13 rfl (Qt.pickT rfl g10) ?_
   refine go [.t 14,.m] (k := ?_)
   refine AWA.split 73 rfl (fun g11 => ?_) (fun g11 => ?_)
   ·refine go [.t 15,.x,.N,.t 16,.x,.o 17 [],.x,.N,.t 18,.x] (k := ?_)
    refine tk 19 rfl (Qt.pickT rfl g11) ?_
    refine go [.Z] (k := ?_)
    refine cd (fun c12 => ?_) fun c12 => ?_
    ·try simp only [cnd] at c12
     have hS := i.stop (by omega) (show (procU u) i.k = false by simp only [procU, rises, pidOf]; grind only)
     refine go [.R,.a,.Z] (k := ?_)
     refine rt1 2 ?_
     refine rb ?_
     simp only [unixOk, headOk, progsOk, procsOk_eq, opensOk_eq]
     grind only
    try simp only [cnd] at c12
    refine go [.J,.R1,.b,.N,.m,.Z] (k := ?_)
    refine ⟨⟨i.k + 1, by omega, i.next (show (procU u) i.k = true by simp only [procU, rises, pidOf]; grind only)⟩, ws, ?_⟩
    show u.Procs.length - (i.k + 1) < u.Procs.length - i.k
    omega
   refine go [.t 15,.G,.t 16,.G,.N] (k := ?_)
   refine a1 17 [] [16, 15, 14, 13, 2, 12, 1, 11, 9, 0, 10, 8, 7, 6, 4, 5, 3] rfl (nF g11) (Stp.callV rfl (by decide) Tryz.call157 rfl rfl (procOk_con u _ (by omega) (by omega) (by omega))) ?_
   refine go [.N,.t 18,.n] (k := ?_)
   refine tk 19 rfl (Qt.pickF rfl g11) ?_
   refine go [.Z] (k := ?_)
   refine cd (fun c13 => ?_) fun c13 => ?_
   ·try simp only [cnd] at c13
    have hS := i.stop (by omega) (show (procU u) i.k = false by simp only [procU, rises, pidOf]; grind only)
    refine go [.R,.a,.Z] (k := ?_)
    refine rt1 2 ?_
    refine rb ?_
    simp only [unixOk, headOk, progsOk, procsOk_eq, opensOk_eq]
    grind only
   try simp only [cnd] at c13
   refine go [.J,.R1,.b,.N,.m,.Z] (k := ?_)
   refine ⟨⟨i.k + 1, by omega, i.next (show (procU u) i.k = true by simp only [procU, rises, pidOf]; grind only)⟩, ws, ?_⟩
   show u.Procs.length - (i.k + 1) < u.Procs.length - i.k
   omega
  refine go [.t 3,.x,.t 4,.x,.N,.t 5,.x,.t 6,.x,.t 7,.x,.N,.t 8,.x,.t 9,.x,.t 10,.x,.N,.t 11,.x,.t 12,.x] (k := ?_)
  refine tk 13 rfl (Qt.pickF rfl g10) ?_
  refine go [.N,.t 14,.m] (k := ?_)
  refine AWA.split 73 rfl (fun g14 => ?_) (fun g14 => ?_)
  ·refine go [.t 15,.x,.t 16,.x,.N,.O 17 [] [16, 15, 14, 13, 2, 12, 1, 11, 9, 0, 10, 8, 7, 6, 4, 5, 3],.x,.N,.t 18,.x] (k := ?_)
   refine tk 19 rfl (Qt.pickT rfl g14) ?_
   refine go [.Z] (k := ?_)
   refine cd (fun c15 => ?_) fun c15 => ?_
   ·try simp only [cnd] at c15
    have hS := i.stop (by omega) (show (procU u) i.k = false by simp only [procU, rises, pidOf]; grind only)
    refine go [.R,.a,.Z] (k := ?_)
    refine rt1 2 ?_
    refine rb ?_
    simp only [unixOk, headOk, progsOk, procsOk_eq, opensOk_eq]
    grind only
   try simp only [cnd] at c15
   refine go [.J,.R1,.b,.N,.m,.Z] (k := ?_)
   refine ⟨⟨i.k + 1, by omega, i.next (show (procU u) i.k = true by simp only [procU, rises, pidOf]; grind only)⟩, ws, ?_⟩
   show u.Procs.length - (i.k + 1) < u.Procs.length - i.k
   omega
  refine go [.t 15,.G,.t 16,.G,.N] (k := ?_)
  refine a1 17 [] [16, 15, 14, 13, 2, 12, 1, 11, 9, 0, 10, 8, 7, 6, 4, 5, 3] rfl (nF g14) (Stp.callV rfl (by decide) Tryz.call157 rfl rfl (procOk_con u _ (by omega) (by omega) (by omega))) ?_
  refine go [.N,.t 18,.n] (k := ?_)
  refine tk 19 rfl (Qt.pickF rfl g14) ?_
  refine go [.Z] (k := ?_)
  refine cd (fun c16 => ?_) fun c16 => ?_
  ·try simp only [cnd] at c16
   have hS := i.stop (by omega) (show (procU u) i.k = false by simp only [procU, rises, pidOf]; grind only)
   refine go [.R,.a,.Z] (k := ?_)
   refine rt1 2 ?_
   refine rb ?_
   simp only [unixOk, headOk, progsOk, procsOk_eq, opensOk_eq]
   grind only
  try simp only [cnd] at c16
  refine go [.J,.R1,.b,.N,.m,.Z] (k := ?_)
  refine ⟨⟨i.k + 1, by omega, i.next (show (procU u) i.k = true by simp only [procU, rises, pidOf]; grind only)⟩, ws, ?_⟩
  show u.Procs.length - (i.k + 1) < u.Procs.length - i.k
  omega
 try simp only [cnd] at c9
 have hA := i.full (by omega)
 have hP : procsOk u = true := hA
 refine AW.exit ?_
 dsimp only [thenQ, blockQ, reduceIte]
 refine go [.R2,.f,.l,.N,.h,.m,.Z] (k := ?_)
 refine AW.block ?_
 refine AW.loopW (fun j : AIx (openU u) u.Opens.length => [.sl 83 (.v (iv j.k)), .rt 1 .box (T.s 9 1 fun k c => ([(T.v (iv u.Next), none), (T.v (iv u.Tick), none), (T.j, none), (T.j, none), (T.j, none), (T.j, none), (T.j, none), (T.j, none), (T.j, none)].getD (k * 9 + c) (T.j, none)).fst), .al 1 2 (.h base []), .al 1 3 (.h (base + 1) []), .al 1 4 (.h (base + 2) []), .al 1 5 (.h (base + 3) []), .al 1 6 (.h (base + 4) []), .al 1 7 (.h (base + 5) []), .al 1 8 (.h (base + 6) []), .rt base .ro (tr u.Progs), .rt (base + 1) .ro (tr u.Procs), .rt (base + 2) .ro (tr u.Opens), .rt (base + 3) .ro (tr u.Pipes), .rt (base + 4) .ro (tr u.Files), .rt (base + 5) .ro (tr u.Ready), .rt (base + 6) .ro (tr u.Out), .sl 1 (.p 1 [] 9 0 0), .sl 81 (.h (base + 2) []), .sl 82 (.v (iv u.Opens.length))]) (fun j => u.Opens.length - j.k) ⟨0, Nat.zero_le _, fun _ h => absurd h (Nat.not_lt_zero _)⟩ (ws) ?_
 intro j
 have hlej := j.le
 have hTj : ((j.k : Int) - 1).toNat = j.k - 1 := by omega
 refine go [.R,.b,.Z] (k := ?_)
 refine AW.seq ?_
 refine cd (fun c17 => ?_) fun c17 => ?_
 ·try simp only [cnd] at c17
  refine jd (AW.seq (AW.block (sr ?_)))
  refine go [.m,.N,.i,.G,.A,.N,.a,.s,.Z] (k := ?_)
  refine AW.seq ?_
  refine go [.D [0, 1, 2, 3, 4, 5, 6, 7, 8, 9, 10, 11, 12, 13, 14, 15, 16, 18, 19],.t 0,.m,.N,.t 1,.b,.t 2,.m] (k := ?_)
  refine AWA.split 90 rfl (fun g18 => ?_) (fun g18 => ?_)
  ·refine go [.t 3,.f,.N,.t 4,.l,.t 5,.m,.t 6,.b,.N,.t 7,.i,.t 8,.f,.t 9,.l,.N,.t 10,.f,.t 11,.l,.t 12,.b,.N] (k := ?_)
   refine tk 13 rfl (Qt.pickT rfl g18) ?_
   refine go [.t 14,.m] (k := ?_)
   refine AWA.split 102 rfl (fun g19 => ?_) (fun g19 => ?_)
   ·refine go [.t 15,.x,.N,.t 16,.x,.o 17 [],.x,.N,.t 18,.x] (k := ?_)
    refine tk 19 rfl (Qt.pickT rfl g19) ?_
    refine go [.Z] (k := ?_)
    refine cd (fun c20 => ?_) fun c20 => ?_
    ·try simp only [cnd] at c20
     have hS := j.stop (by omega) (show (openU u) j.k = false by simp only [openU, rises]; grind only)
     refine go [.R,.a,.Z] (k := ?_)
     refine rt1 2 ?_
     refine rb ?_
     simp only [unixOk, headOk, progsOk, procsOk_eq, opensOk_eq]
     grind only
    try simp only [cnd] at c20
    refine go [.J,.R1,.b,.N,.m,.Z] (k := ?_)
    refine ⟨⟨j.k + 1, by omega, j.next (show (openU u) j.k = true by simp only [openU, rises]; grind only)⟩, ws, ?_⟩
    show u.Opens.length - (j.k + 1) < u.Opens.length - j.k
    omega
   refine go [.t 15,.G,.t 16,.G,.N] (k := ?_)
   refine a1 17 [] [16, 15, 14, 13, 2, 12, 1, 11, 9, 0, 10, 8, 7, 6, 4, 5, 3] rfl (nF g19) (Stp.callV rfl (by decide) Tryz.call158 rfl rfl (openOk_con u _ hb)) ?_
   refine go [.N,.t 18,.n] (k := ?_)
   refine tk 19 rfl (Qt.pickF rfl g19) ?_
   refine go [.Z] (k := ?_)
   refine cd (fun c21 => ?_) fun c21 => ?_
   ·try simp only [cnd] at c21
    have hS := j.stop (by omega) (show (openU u) j.k = false by simp only [openU, rises]; grind only)
    refine go [.R,.a,.Z] (k := ?_)
    refine rt1 2 ?_
    refine rb ?_
    simp only [unixOk, headOk, progsOk, procsOk_eq, opensOk_eq]
    grind only
   try simp only [cnd] at c21
   refine go [.J,.R1,.b,.N,.m,.Z] (k := ?_)
   refine ⟨⟨j.k + 1, by omega, j.next (show (openU u) j.k = true by simp only [openU, rises]; grind only)⟩, ws, ?_⟩
   show u.Opens.length - (j.k + 1) < u.Opens.length - j.k
   omega
  refine go [.t 3,.x,.t 4,.x,.N,.t 5,.x,.t 6,.x,.t 7,.x,.N,.t 8,.x,.t 9,.x,.t 10,.x,.N,.t 11,.x,.t 12,.x] (k := ?_)
  refine tk 13 rfl (Qt.pickF rfl g18) ?_
  refine go [.N,.t 14,.m] (k := ?_)
  refine AWA.split 102 rfl (fun g22 => ?_) (fun g22 => ?_)
  ·refine go [.t 15,.x,.t 16,.x,.N,.O 17 [] [16, 15, 14, 13, 2, 12, 1, 11, 9, 0, 10, 8, 7, 6, 4, 5, 3],.x,.N,.t 18,.x] (k := ?_)
   refine tk 19 rfl (Qt.pickT rfl g22) ?_
   refine go [.Z] (k := ?_)
   refine cd (fun c23 => ?_) fun c23 => ?_
   ·try simp only [cnd] at c23
    have hS := j.stop (by omega) (show (openU u) j.k = false by simp only [openU, rises]; grind only)
    refine go [.R,.a,.Z] (k := ?_)
    refine rt1 2 ?_
    refine rb ?_
    simp only [unixOk, headOk, progsOk, procsOk_eq, opensOk_eq]
    grind only
   try simp only [cnd] at c23
   refine go [.J,.R1,.b,.N,.m,.Z] (k := ?_)
   refine ⟨⟨j.k + 1, by omega, j.next (show (openU u) j.k = true by simp only [openU, rises]; grind only)⟩, ws, ?_⟩
   show u.Opens.length - (j.k + 1) < u.Opens.length - j.k
   omega
  refine go [.t 15,.G,.t 16,.G,.N] (k := ?_)
  refine a1 17 [] [16, 15, 14, 13, 2, 12, 1, 11, 9, 0, 10, 8, 7, 6, 4, 5, 3] rfl (nF g22) (Stp.callV rfl (by decide) Tryz.call158 rfl rfl (openOk_con u _ hb)) ?_
  refine go [.N,.t 18,.n] (k := ?_)
  refine tk 19 rfl (Qt.pickF rfl g22) ?_
  refine go [.Z] (k := ?_)
  refine cd (fun c24 => ?_) fun c24 => ?_
  ·try simp only [cnd] at c24
   have hS := j.stop (by omega) (show (openU u) j.k = false by simp only [openU, rises]; grind only)
   refine go [.R,.a,.Z] (k := ?_)
   refine rt1 2 ?_
   refine rb ?_
   simp only [unixOk, headOk, progsOk, procsOk_eq, opensOk_eq]
   grind only
  try simp only [cnd] at c24
  refine go [.J,.R1,.b,.N,.m,.Z] (k := ?_)
  refine ⟨⟨j.k + 1, by omega, j.next (show (openU u) j.k = true by simp only [openU, rises]; grind only)⟩, ws, ?_⟩
  show u.Opens.length - (j.k + 1) < u.Opens.length - j.k
  omega
 try simp only [cnd] at c17
 have hB := j.full (by omega)
 have hM := mem_pages (l := u.Procs) (fun i hi => by have := procOk_parts (procsOk_at hP hi).2; omega) _ (Nat.le_refl _)
 have hRd : decide (srt u.Ready = wantOf u.Procs) = readyOk u := by rw [← ready_eq hP, Bool.eq_iff_iff]; simp
 refine AW.exit ?_
 dsimp only [thenQ, blockQ, reduceIte]
 refine go [.R,.G] (k := ?_)
 refine cv Tryz.call159 rfl rfl (wordsI_con u hb) ?_
 refine go [.N,.b,.m] (k := ?_)
 apply AWL.cut 2
 ·intro Kg25
  refine AWL.split 112 rfl (fun g25 => ?_) (fun g25 => ?_)
  ·refine go [.G,.N] (k := ?_)
   refine AWL.step rfl g25 (Stp.callV rfl (by decide) Tryz.call160 rfl rfl (pipesOkI_con u)) ?_
   refine go [.N] (k := ?_)
   exact wjT 114 [113, 114] (ifT g25 _ undef) Kg25
  ·refine go [.x,.x] (k := ?_)
   exact wjF 114 [113, 114] (ifF g25 undef _) Kg25
 refine qq (Qt.pickAnd rfl rfl rfl) ?_
 refine go [.m] (k := ?_)
 apply AWL.cut 3
 ·intro Kg26
  refine AWL.split 116 rfl (fun g26 => ?_) (fun g26 => ?_)
  ·refine go [.f,.N,.l] (k := ?_)
   refine AWL.step rfl g26 (Stp.callV rfl (by decide) Tryz.call161 rfl rfl (filesOkI_con _)) ?_
   refine go [.N] (k := ?_)
   exact wjT 119 [117, 118, 119] (ifT g26 _ undef) Kg26
  ·refine go [.x,.x,.x] (k := ?_)
   exact wjF 119 [117, 118, 119] (ifF g26 undef _) Kg26
 refine qq (Qt.pickAnd rfl rfl rfl) ?_
 refine go [.m] (k := ?_)
 apply AWL.cut 2
 ·intro Kg27
  refine AWL.split 121 rfl (fun g27 => ?_) (fun g27 => ?_)
  ·refine go [.G,.N] (k := ?_)
   refine AWL.step rfl g27 (Stp.callV rfl (by decide) Tryz.call162 rfl rfl (readyOkI_con u hb)) ?_
   refine go [.N] (k := ?_)
   exact wjT 123 [122, 123] (ifT g27 _ undef) Kg27
  ·refine go [.x,.x] (k := ?_)
   exact wjF 123 [122, 123] (ifF g27 undef _) Kg27
 refine qq (Qt.pickAnd rfl rfl rfl) ?_
 refine go [.a,.Z] (k := ?_)
 refine rt1 2 ?_
 refine rb ?_
 simp only [unixOk, headOk, progsOk, procsOk_eq, opensOk_eq]
 grind only
end Go.Proofs.YthjfgpkjooaahaaGreat.VM

