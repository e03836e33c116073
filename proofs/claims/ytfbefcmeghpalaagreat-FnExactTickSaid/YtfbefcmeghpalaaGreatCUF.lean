/- Contracts of functions of the program. No conditions beyond those that each states. -/
import Derived.Test.YtfbefcmeghpalaaGreatCUE
import Derived.Test.YtfbefcmeghpalaaGreatCU9
set_option linter.all false
set_option maxHeartbeats 8000000
set_option maxRecDepth 10000
namespace Go.Proofs.YtfbefcmeghpalaaGreat.VM
open Go Go.RowKit Go.Proofs
theorem unixOk1_con (p : List DIns) : Con Tryz.prog 105 [.h base []] [.rt base .ro (tr p)] (fun y _ => y = .v (.bool (!(progOk p)))) := by
 refine ob Tryz.func105 Tryz.ntmps105 ?_
 refine sr ?_
 refine qs' ?_
 refine qm ?_
 refine cv Tryz.call106 rfl rfl (ProgOkI_con _) ?_
 refine nm ?_
 refine qq (Qt.notB rfl) ?_
 refine qr 2 ?_
 rfl
theorem ixPG_con {fid : FuncId} {p : (List DIns) → Bool} (hE : Ent Tryz.prog fid) (hp : ∀ x : List DIns, Con Tryz.prog fid [.h base []] [.rt base .ro (tr x)] (fun y _ => y = .v (.bool (p x)))) (l : List (List DIns)) : Con Tryz.prog 188 [.h base [], .f fid []] [.rt base .ro (tr l)] (fun y _ => y = .v (iv (ixOf p l))) := by
 refine ob Tryz.func188 Tryz.ntmps188 ?_
 refine AW.len base [] rfl (by simp [Okp]) rfl (fun hl => ?_)
 refine sr ?_
 refine qn ?_
 refine sr2 ?_
 refine qm ?_
 refine qh sl24 ?_
 refine nm ?_
 refine qm ?_
 refine nl ?_
 refine AW.block ?_
 refine AW.loopW (fun i : IxInv p l => [.sl 8 (.v (iv i.k)), .sl 7 (.v (iv l.length)), .sl 0 (.h base []), .sl 1 (.f fid []), .rt base .ro (tr l)]) (fun i => l.length - i.k) ⟨0, Nat.zero_le _, rfl⟩ (Weak.sim ⟨rfl, rfl, rfl, rfl, Rf rfl, trivial⟩ rfl rfl) ?_
 intro i
 have hle := i.le
 refine sr ?_
 refine qb ?_
 refine nl ?_
 refine AW.seq ?_
 refine cd (fun c1 => ?_) fun c1 => ?_
 ·try simp only [cnd] at c1
  refine jd (AW.seq (AW.block (sr ?_)))
  refine mn ?_
  refine qs' ?_
  refine qm ?_
  refine mn ?_
  refine qm ?_
  refine qq (ix sl24 sz65) ?_
  refine ql ag65 ?_
  refine nm ?_
  refine cv hE rfl rfl (hp (l.getD i.k En.dflt)) ?_
  refine nc (fun c2 => ?_) fun c2 => ?_
  ·try simp only [cnd] at c2
   refine sr ?_
   refine mn ?_
   refine qr 4 ?_
   rw [ixOf_hit i En.dflt (by omega) c2]
   rfl
  try simp only [cnd] at c2
  refine jd (AW.region ?_)
  refine ba ?_
  refine qm ?_
  refine nl ?_
  refine ⟨⟨i.k + 1, by omega, i.next En.dflt (by omega) c2⟩, Weak.sim ⟨st1, rfl, rfl, rfl, Rf rfl, trivial⟩ rfl rfl, ?_⟩
  show l.length - (i.k + 1) < l.length - i.k
  omega
 try simp only [cnd] at c1
 refine AW.exit ?_
 dsimp only [thenQ, blockQ, reduceIte]
 refine sr ?_
 refine qr 4 ?_
 rw [ixOf_none i (by omega)]
 rfl
theorem hasPG_con {fid : FuncId} {p : (List DIns) → Bool} (hE : Ent Tryz.prog fid) (hp : ∀ x : List DIns, Con Tryz.prog fid [.h base []] [.rt base .ro (tr x)] (fun y _ => y = .v (.bool (p x)))) (l : List (List DIns)) : Con Tryz.prog 104 [.h base [], .f fid []] [.rt base .ro (tr l)] (fun y _ => y = .v (.bool (l.any p))) := by
 refine ob Tryz.func104 Tryz.ntmps104 ?_
 refine sr ?_
 refine qs' ?_
 refine qm ?_
 refine mn ?_
 refine cv Tryz.call188 rfl rfl (ixPG_con hE hp _) ?_
 refine nm ?_
 refine qb ?_
 refine qr 4 ?_
 rw [← ixOf_ge]
 rfl
theorem any_pg (l : List (List DIns)) : (l.any fun x => !(progOk x)) = !(l.all progOk) := by rw [Bool.eq_iff_iff]; simp
theorem UnixOkI_con (u : DUnix) (hb : unixB u) : Con Tryz.prog 45 [.g [.v (iv u.Next), .v (iv u.Tick), .h base [], .h (base + 1) [], .h (base + 2) [], .h (base + 3) [], .h (base + 4) [], .h (base + 5) [], .h (base + 6) []]] [.rt base .ro (tr u.Progs), .rt (base + 1) .ro (tr u.Procs), .rt (base + 2) .ro (tr u.Opens), .rt (base + 3) .ro (tr u.Pipes), .rt (base + 4) .ro (tr u.Files), .rt (base + 5) .ro (tr u.Ready), .rt (base + 6) .ro (tr u.Out)] (fun y _ => y = .v (.bool (unixOk u))) := by
 refine ob Tryz.func45 Tryz.ntmps45 ?_
 refine AW.len (base + 1) [] rfl (by simp [Okp]) rfl (fun hl1 => ?_)
 refine AW.len (base + 2) [] rfl (by simp [Okp]) rfl (fun hl2 => ?_)
 have hap := any_pg u.Progs
 have hmb := hb.mem
 refine sr ?_
 refine bx ?_
 refine nm ?_
 refine qn ?_
 refine sr2 ?_
 refine qq (fA fl31_0) ?_
 refine ql ag3 ?_
 refine nm ?_
 refine cv Tryz.call102 rfl rfl (in_con _ _ _) ?_
 refine nm ?_
 refine qq (Qt.notB rfl) ?_
 refine qm ?_
 apply AWL.cut 4
 ·intro Kg1
  refine AWL.splitF 11 rfl (fun g1 => ?_) (fun g1 => ?_)
  ·refine qg (nF g1) (fA fl31_1) ?_
   refine nm ?_
   refine qg (nF g1) (Qt.load1 rfl rfl rfl ag3) ?_
   refine AWL.step rfl (nF g1) (Stp.callV rfl (by decide) Tryz.call102 rfl rfl (in_con _ _ _)) ?_
   refine nm ?_
   refine qg (nF g1) (Qt.notB rfl) ?_
   exact wj 15 [12, 13, 14, 15] (ifF g1 _ undef) (by simp only [go_sem, reduceIte, Nat.reduceEqDiff, Nat.reduceBEq, reduceCtorEq]; rfl) Kg1
  ·refine og (nT g1) ?_
   refine og (nT g1) ?_
   refine og (nT g1) ?_
   refine og (nT g1) ?_
   exact wj 15 [12, 13, 14, 15] (ifT g1 undef _) (by simp only [go_sem, reduceIte, Nat.reduceEqDiff, Nat.reduceBEq, reduceCtorEq]) Kg1
 refine qq (Qt.pickOr rfl rfl rfl) ?_
 refine mn ?_
 apply AWL.cut 5
 ·intro Kg2
  refine AWL.splitF 17 rfl (fun g2 => ?_) (fun g2 => ?_)
  ·refine qg (nF g2) (fA fl31_2) ?_
   refine qg (nF g2) (Qt.load1 rfl rfl rfl ag24) ?_
   refine qg (nF g2) (Qt.lenH rfl rfl rfl sl24) ?_
   refine nm ?_
   refine AWL.step rfl (nF g2) (Stp.callV rfl (by decide) Tryz.call102 rfl rfl (in_con _ _ _)) ?_
   refine nm ?_
   refine qg (nF g2) (Qt.notB rfl) ?_
   exact wj 22 [18, 19, 20, 21, 22] (ifF g2 _ undef) (by simp only [go_sem, reduceIte, Nat.reduceEqDiff, Nat.reduceBEq, reduceCtorEq]; rfl) Kg2
  ·refine og (nT g2) ?_
   refine og (nT g2) ?_
   refine og (nT g2) ?_
   refine og (nT g2) ?_
   refine nm ?_
   refine og (nT g2) ?_
   exact wj 22 [18, 19, 20, 21, 22] (ifT g2 undef _) (by simp only [go_sem, reduceIte, Nat.reduceEqDiff, Nat.reduceBEq, reduceCtorEq]) Kg2
 refine qq (Qt.pickOr rfl rfl rfl) ?_
 refine mn ?_
 apply AWL.cut 4
 ·intro Kg3
  refine AWL.splitF 24 rfl (fun g3 => ?_) (fun g3 => ?_)
  ·refine qg (nF g3) (fA fl31_8) ?_
   refine qg (nF g3) (Qt.load1 rfl rfl rfl ag29) ?_
   refine qg (nF g3) (Qt.lenH rfl rfl rfl sl29) ?_
   refine nm ?_
   refine qg (nF g3) (Qt.binOp rfl rfl rfl) ?_
   exact wj 28 [25, 26, 27, 28] (ifF g3 _ undef) (by simp only [go_sem, reduceIte, Nat.reduceEqDiff, Nat.reduceBEq, reduceCtorEq]; rfl) Kg3
  ·refine og (nT g3) ?_
   refine og (nT g3) ?_
   refine og (nT g3) ?_
   refine og (nT g3) ?_
   exact wj 28 [25, 26, 27, 28] (ifT g3 undef _) (by simp only [go_sem, reduceIte, Nat.reduceEqDiff, Nat.reduceBEq, reduceCtorEq]) Kg3
 refine qq (Qt.pickOr rfl rfl rfl) ?_
 refine mn ?_
 apply AWL.cut 4
 ·intro Kg4
  refine AWL.splitF 30 rfl (fun g4 => ?_) (fun g4 => ?_)
  ·refine qg (nF g4) (fA fl31_8) ?_
   refine qg (nF g4) (Qt.load1 rfl rfl rfl ag29) ?_
   refine AWL.step rfl (nF g4) (Stp.callV rfl (by decide) Tryz.call103 rfl rfl (wordsOk_con _)) ?_
   refine nm ?_
   refine qg (nF g4) (Qt.notB rfl) ?_
   exact wj 34 [31, 32, 33, 34] (ifF g4 _ undef) (by simp only [go_sem, reduceIte, Nat.reduceEqDiff, Nat.reduceBEq, reduceCtorEq]; rfl) Kg4
  ·refine og (nT g4) ?_
   refine og (nT g4) ?_
   refine og (nT g4) ?_
   refine og (nT g4) ?_
   exact wj 34 [31, 32, 33, 34] (ifT g4 undef _) (by simp only [go_sem, reduceIte, Nat.reduceEqDiff, Nat.reduceBEq, reduceCtorEq]) Kg4
 refine qq (Qt.pickOr rfl rfl rfl) ?_
 refine nc (fun c5 => ?_) fun c5 => ?_
 ·try simp only [cnd] at c5
  refine sr ?_
  refine qr 2 ?_
  refine rb ?_
  simp only [unixOk, headOk, progsOk, procsOk_eq, opensOk_eq]
  grind only
 try simp only [cnd] at c5
 refine jd (sr2 ?_)
 refine qq (fA fl31_2) ?_
 refine nm ?_
 refine ql ag24 ?_
 refine cv Tryz.call104 rfl rfl (hasPG_con Tryz.call105 (fun x => unixOk1_con x) u.Progs) ?_
 refine nm ?_
 refine qm ?_
 apply AWL.cut 4
 ·intro Kg6
  refine AWL.splitF 39 rfl (fun g6 => ?_) (fun g6 => ?_)
  ·refine qg (nF g6) (fA fl31_3) ?_
   refine qg (nF g6) (Qt.load1 rfl rfl rfl ag25) ?_
   refine nm ?_
   refine qg (nF g6) (Qt.lenH rfl rfl rfl sl25) ?_
   refine qg (nF g6) (Qt.binOp rfl rfl rfl) ?_
   exact wj 43 [40, 41, 42, 43] (ifF g6 _ undef) (by simp only [go_sem, reduceIte, Nat.reduceEqDiff, Nat.reduceBEq, reduceCtorEq]; rfl) Kg6
  ·refine og (nT g6) ?_
   refine og (nT g6) ?_
   refine og (nT g6) ?_
   refine og (nT g6) ?_
   exact wj 43 [40, 41, 42, 43] (ifT g6 undef _) (by simp only [go_sem, reduceIte, Nat.reduceEqDiff, Nat.reduceBEq, reduceCtorEq]) Kg6
 refine qq (Qt.pickOr rfl rfl rfl) ?_
 refine nm ?_
 refine qm ?_
 apply AWL.cut 4
 ·intro Kg7
  refine AWL.splitF 45 rfl (fun g7 => ?_) (fun g7 => ?_)
  ·refine qg (nF g7) (fA fl31_4) ?_
   refine qg (nF g7) (Qt.load1 rfl rfl rfl ag26) ?_
   refine nm ?_
   refine qg (nF g7) (Qt.lenH rfl rfl rfl sl26) ?_
   refine qg (nF g7) (Qt.binOp rfl rfl rfl) ?_
   exact wj 49 [46, 47, 48, 49] (ifF g7 _ undef) (by simp only [go_sem, reduceIte, Nat.reduceEqDiff, Nat.reduceBEq, reduceCtorEq]; rfl) Kg7
  ·refine og (nT g7) ?_
   refine og (nT g7) ?_
   refine og (nT g7) ?_
   refine og (nT g7) ?_
   exact wj 49 [46, 47, 48, 49] (ifT g7 undef _) (by simp only [go_sem, reduceIte, Nat.reduceEqDiff, Nat.reduceBEq, reduceCtorEq]) Kg7
 refine qq (Qt.pickOr rfl rfl rfl) ?_
 refine nc (fun c8 => ?_) fun c8 => ?_
 ·try simp only [cnd] at c8
  refine sr ?_
  refine qr 2 ?_
  refine rb ?_
  simp only [unixOk, headOk, progsOk, procsOk_eq, opensOk_eq]
  grind only
 try simp only [cnd] at c8
 refine jd (sr2 ?_)
 refine qq (fA fl31_3) ?_
 refine nm ?_
 refine ql ag25 ?_
 refine qh sl25 ?_
 refine qm ?_
 refine nl ?_
 refine AW.block ?_
 refine AW.loopW (fun i : AIx (procP u) u.Procs.length => [.sl 54 (.v (iv i.k)), .rt 1 .box (T.s 9 1 fun k c => ([(T.v (iv u.Next), none), (T.v (iv u.Tick), none), (T.j, none), (T.j, none), (T.j, none), (T.j, none), (T.j, none), (T.j, none), (T.j, none)].getD (k * 9 + c) (T.j, none)).fst), .al 1 2 (.h base []), .al 1 3 (.h (base + 1) []), .al 1 4 (.h (base + 2) []), .al 1 5 (.h (base + 3) []), .al 1 6 (.h (base + 4) []), .al 1 7 (.h (base + 5) []), .al 1 8 (.h (base + 6) []), .rt base .ro (tr u.Progs), .rt (base + 1) .ro (tr u.Procs), .rt (base + 2) .ro (tr u.Opens), .rt (base + 3) .ro (tr u.Pipes), .rt (base + 4) .ro (tr u.Files), .rt (base + 5) .ro (tr u.Ready), .rt (base + 6) .ro (tr u.Out), .sl 1 (.p 1 [] 9 0 0), .sl 52 (.h (base + 1) []), .sl 53 (.v (iv u.Procs.length))]) (fun i => u.Procs.length - i.k) ⟨0, Nat.zero_le _, fun _ h => absurd h (Nat.not_lt_zero _)⟩ (Weak.sim ⟨rfl, Rf rfl, ⟨rfl, rfl⟩, ⟨rfl, rfl⟩, ⟨rfl, rfl⟩, ⟨rfl, rfl⟩, ⟨rfl, rfl⟩, ⟨rfl, rfl⟩, ⟨rfl, rfl⟩, Rf rfl, Rf rfl, Rf rfl, Rf rfl, Rf rfl, Rf rfl, Rf rfl, rfl, rfl, rfl, trivial⟩ rfl rfl) ?_
 intro i
 have hle := i.le
 have hTi : ((i.k : Int) - 1).toNat = i.k - 1 := by omega
 refine sr ?_
 refine qb ?_
 refine nl ?_
 refine AW.seq ?_
 refine cd (fun c9 => ?_) fun c9 => ?_
 ·try simp only [cnd] at c9
  refine jd (AW.seq (AW.block (sr ?_)))
  refine mn ?_
  refine qq (ix sl25 sz72) ?_
  refine qG ag72 sz72 ?_
  refine sp sA ?_
  refine nm ?_
  refine qa ?_
  refine ss ?_
  refine nl ?_
  refine AW.seq ?_
  refine AW.draw [0, 1, 2, 3, 4, 5, 6, 7, 8, 9, 10, 11, 12, 13, 14, 15, 16, 18, 19] rfl (by decide +kernel) ?_
  refine tk 0 rfl Qt.move ?_
  refine na ?_
  refine tk 1 rfl (Qt.binOp rfl rfl rfl) ?_
  refine tk 2 rfl Qt.move ?_
  refine AWA.split 61 rfl (fun g10 => ?_) (fun g10 => ?_)
  ·refine tg 3 rfl g10 (fA fl31_3) ?_
   refine na ?_
   refine tg 4 rfl g10 (Qt.load1 rfl rfl rfl ag25) ?_
   refine tg 5 rfl g10 Qt.move ?_
   refine tg 6 rfl g10 (Qt.binOp rfl rfl (by first | exact pbSub (by omega) | rfl)) ?_
   refine na ?_
   refine tg 7 rfl g10 (ix sl25 sz72) ?_
   refine tg 8 rfl g10 (fA fl72_0) ?_
   refine tg 9 rfl g10 (Qt.load1 rfl rfl rfl ag3) ?_
   refine na ?_
   refine tg 10 rfl g10 (fA fl72_0) ?_
   refine tg 11 rfl g10 (Qt.load1 rfl rfl rfl ag3) ?_
   refine tg 12 rfl g10 (Qt.binOp rfl rfl rfl) ?_
   refine na ?_
   refine tk 13 rfl (Qt.pickT rfl g10) ?_
   refine tk 14 rfl Qt.move ?_
   refine AWA.split 73 rfl (fun g11 => ?_) (fun g11 => ?_)
   ·refine tf 15 (nT g11) ?_
    refine na ?_
    refine tf 16 (nT g11) ?_
    refine o1 17 [] [16, 15, 14, 13, 2, 12, 1, 11, 9, 0, 10, 8, 7, 6, 4, 5, 3] rfl (nT g11) ?_
    refine na ?_
    refine na ?_
    refine tf 18 (nT g11) ?_
    refine tk 19 rfl (Qt.pickT rfl g11) ?_
    refine nz ?_
    refine cd (fun c12 => ?_) fun c12 => ?_
    ·try simp only [cnd] at c12
     have hS := i.stop (by omega) (show (procP u) i.k = false by simp only [procP, rises, pidOf]; grind only)
     refine sr ?_
     refine qr 2 ?_
     refine rb ?_
     simp only [unixOk, headOk, progsOk, procsOk_eq, opensOk_eq]
     grind only
    try simp only [cnd] at c12
    refine jd (AW.region ?_)
    refine ba ?_
    refine nm ?_
    refine qm ?_
    refine nl ?_
    refine ⟨⟨i.k + 1, by omega, i.next (show (procP u) i.k = true by simp only [procP, rises, pidOf]; grind only)⟩, Weak.sim ⟨st1, Rf rfl, ⟨rfl, rfl⟩, ⟨rfl, rfl⟩, ⟨rfl, rfl⟩, ⟨rfl, rfl⟩, ⟨rfl, rfl⟩, ⟨rfl, rfl⟩, ⟨rfl, rfl⟩, Rf rfl, Rf rfl, Rf rfl, Rf rfl, Rf rfl, Rf rfl, Rf rfl, rfl, rfl, rfl, trivial⟩ rfl rfl, ?_⟩
    show u.Procs.length - (i.k + 1) < u.Procs.length - i.k
    omega
   refine tg 15 rfl (nF g11) (Qt.loadG rfl rfl rfl ag31 sz31 (by decide)) ?_
   refine tg 16 rfl (nF g11) (Qt.loadG rfl rfl rfl ag72 sz72 (by decide)) ?_
   refine na ?_
   refine a1 17 [] [16, 15, 14, 13, 2, 12, 1, 11, 9, 0, 10, 8, 7, 6, 4, 5, 3] rfl (nF g11) (Stp.callV rfl (by decide) Tryz.call107 rfl rfl (procOk_con u _ (by omega) (by omega) (by omega))) ?_
   refine na ?_
   refine na ?_
   refine tg 18 rfl (nF g11) (Qt.notB rfl) ?_
   refine tk 19 rfl (Qt.pickF rfl g11) ?_
   refine nz ?_
   refine cd (fun c13 => ?_) fun c13 => ?_
   ·try simp only [cnd] at c13
    have hS := i.stop (by omega) (show (procP u) i.k = false by simp only [procP, rises, pidOf]; grind only)
    refine sr ?_
    refine qr 2 ?_
    refine rb ?_
    simp only [unixOk, headOk, progsOk, procsOk_eq, opensOk_eq]
    grind only
   try simp only [cnd] at c13
   refine jd (AW.region ?_)
   refine ba ?_
   refine nm ?_
   refine qm ?_
   refine nl ?_
   refine ⟨⟨i.k + 1, by omega, i.next (show (procP u) i.k = true by simp only [procP, rises, pidOf]; grind only)⟩, Weak.sim ⟨st1, Rf rfl, ⟨rfl, rfl⟩, ⟨rfl, rfl⟩, ⟨rfl, rfl⟩, ⟨rfl, rfl⟩, ⟨rfl, rfl⟩, ⟨rfl, rfl⟩, ⟨rfl, rfl⟩, Rf rfl, Rf rfl, Rf rfl, Rf rfl, Rf rfl, Rf rfl, Rf rfl, rfl, rfl, rfl, trivial⟩ rfl rfl, ?_⟩
   show u.Procs.length - (i.k + 1) < u.Procs.length - i.k
   omega
  refine tf 3 g10 ?_
  refine tf 4 g10 ?_
  refine na ?_
  refine tf 5 g10 ?_
  refine tf 6 g10 ?_
  refine tf 7 g10 ?_
  refine na ?_
  refine tf 8 g10 ?_
  refine tf 9 g10 ?_
  refine tf 10 g10 ?_
  refine na ?_
  refine tf 11 g10 ?_
  refine tf 12 g10 ?_
  refine tk 13 rfl (Qt.pickF rfl g10) ?_
  refine na ?_
  refine tk 14 rfl Qt.move ?_
  refine AWA.split 73 rfl (fun g14 => ?_) (fun g14 => ?_)
  ·refine tf 15 (nT g14) ?_
   refine tf 16 (nT g14) ?_
   refine na ?_
   refine o1 17 [] [16, 15, 14, 13, 2, 12, 1, 11, 9, 0, 10, 8, 7, 6, 4, 5, 3] rfl (nT g14) ?_
   refine na ?_
   refine na ?_
   refine tf 18 (nT g14) ?_
   refine tk 19 rfl (Qt.pickT rfl g14) ?_
   refine nz ?_
   refine cd (fun c15 => ?_) fun c15 => ?_
   ·try simp only [cnd] at c15
    have hS := i.stop (by omega) (show (procP u) i.k = false by simp only [procP, rises, pidOf]; grind only)
    refine sr ?_
    refine qr 2 ?_
    refine rb ?_
    simp only [unixOk, headOk, progsOk, procsOk_eq, opensOk_eq]
    grind only
   try simp only [cnd] at c15
   refine jd (AW.region ?_)
   refine ba ?_
   refine nm ?_
   refine qm ?_
   refine nl ?_
   refine ⟨⟨i.k + 1, by omega, i.next (show (procP u) i.k = true by simp only [procP, rises, pidOf]; grind only)⟩, Weak.sim ⟨st1, Rf rfl, ⟨rfl, rfl⟩, ⟨rfl, rfl⟩, ⟨rfl, rfl⟩, ⟨rfl, rfl⟩, ⟨rfl, rfl⟩, ⟨rfl, rfl⟩, ⟨rfl, rfl⟩, Rf rfl, Rf rfl, Rf rfl, Rf rfl, Rf rfl, Rf rfl, Rf rfl, rfl, rfl, rfl, trivial⟩ rfl rfl, ?_⟩
   show u.Procs.length - (i.k + 1) < u.Procs.length - i.k
   omega
  refine tg 15 rfl (nF g14) (Qt.loadG rfl rfl rfl ag31 sz31 (by decide)) ?_
  refine tg 16 rfl (nF g14) (Qt.loadG rfl rfl rfl ag72 sz72 (by decide)) ?_
  refine na ?_
  refine a1 17 [] [16, 15, 14, 13, 2, 12, 1, 11, 9, 0, 10, 8, 7, 6, 4, 5, 3] rfl (nF g14) (Stp.callV rfl (by decide) Tryz.call107 rfl rfl (procOk_con u _ (by omega) (by omega) (by omega))) ?_
  refine na ?_
  refine na ?_
  refine tg 18 rfl (nF g14) (Qt.notB rfl) ?_
  refine tk 19 rfl (Qt.pickF rfl g14) ?_
  refine nz ?_
  refine cd (fun c16 => ?_) fun c16 => ?_
  ·try simp only [cnd] at c16
   have hS := i.stop (by omega) (show (procP u) i.k = false by simp only [procP, rises, pidOf]; grind only)
   refine sr ?_
   refine qr 2 ?_
   refine rb ?_
   simp only [unixOk, headOk, progsOk, procsOk_eq, opensOk_eq]
   grind only
  try simp only [cnd] at c16
  refine jd (AW.region ?_)
  refine ba ?_
  refine nm ?_
  refine qm ?_
  refine nl ?_
  refine ⟨⟨i.k + 1, by omega, i.next (show (procP u) i.k = true by simp only [procP, rises, pidOf]; grind only)⟩, Weak.sim ⟨st1, Rf rfl, ⟨rfl, rfl⟩, ⟨rfl, rfl⟩, ⟨rfl, rfl⟩, ⟨rfl, rfl⟩, ⟨rfl, rfl⟩, ⟨rfl, rfl⟩, ⟨rfl, rfl⟩, Rf rfl, Rf rfl, Rf rfl, Rf rfl, Rf rfl, Rf rfl, Rf rfl, rfl, rfl, rfl, trivial⟩ rfl rfl, ?_⟩
  show u.Procs.length - (i.k + 1) < u.Procs.length - i.k
  omega
 try simp only [cnd] at c9
 have hA := i.full (by omega)
 have hP : procsOk u = true := hA
 refine AW.exit ?_
 dsimp only [thenQ, blockQ, reduceIte]
 refine sr2 ?_
 refine qq (fA fl31_4) ?_
 refine ql ag26 ?_
 refine nm ?_
 refine qh sl26 ?_
 refine qm ?_
 refine nl ?_
 refine AW.block ?_
 refine AW.loopW (fun j : AIx (openP u) u.Opens.length => [.sl 83 (.v (iv j.k)), .rt 1 .box (T.s 9 1 fun k c => ([(T.v (iv u.Next), none), (T.v (iv u.Tick), none), (T.j, none), (T.j, none), (T.j, none), (T.j, none), (T.j, none), (T.j, none), (T.j, none)].getD (k * 9 + c) (T.j, none)).fst), .al 1 2 (.h base []), .al 1 3 (.h (base + 1) []), .al 1 4 (.h (base + 2) []), .al 1 5 (.h (base + 3) []), .al 1 6 (.h (base + 4) []), .al 1 7 (.h (base + 5) []), .al 1 8 (.h (base + 6) []), .rt base .ro (tr u.Progs), .rt (base + 1) .ro (tr u.Procs), .rt (base + 2) .ro (tr u.Opens), .rt (base + 3) .ro (tr u.Pipes), .rt (base + 4) .ro (tr u.Files), .rt (base + 5) .ro (tr u.Ready), .rt (base + 6) .ro (tr u.Out), .sl 1 (.p 1 [] 9 0 0), .sl 81 (.h (base + 2) []), .sl 82 (.v (iv u.Opens.length))]) (fun j => u.Opens.length - j.k) ⟨0, Nat.zero_le _, fun _ h => absurd h (Nat.not_lt_zero _)⟩ (Weak.sim ⟨rfl, Rf rfl, ⟨rfl, rfl⟩, ⟨rfl, rfl⟩, ⟨rfl, rfl⟩, ⟨rfl, rfl⟩, ⟨rfl, rfl⟩, ⟨rfl, rfl⟩, ⟨rfl, rfl⟩, Rf rfl, Rf rfl, Rf rfl, Rf rfl, Rf rfl, Rf rfl, Rf rfl, rfl, rfl, rfl, trivial⟩ rfl rfl) ?_
 intro j
 have hlej := j.le
 have hTj : ((j.k : Int) - 1).toNat = j.k - 1 := by omega
 refine sr ?_
 refine qb ?_
 refine nl ?_
 refine AW.seq ?_
 refine cd (fun c17 => ?_) fun c17 => ?_
 ·try simp only [cnd] at c17
  refine jd (AW.seq (AW.block (sr ?_)))
  refine mn ?_
  refine qq (ix sl26 sz130) ?_
  refine qG ag130 sz130 ?_
  refine sp sA ?_
  refine nm ?_
  refine qa ?_
  refine ss ?_
  refine nl ?_
  refine AW.seq ?_
  refine AW.draw [0, 1, 2, 3, 4, 5, 6, 7, 8, 9, 10, 11, 12, 13, 14, 15, 16, 18, 19] rfl (by decide +kernel) ?_
  refine tk 0 rfl Qt.move ?_
  refine na ?_
  refine tk 1 rfl (Qt.binOp rfl rfl rfl) ?_
  refine tk 2 rfl Qt.move ?_
  refine AWA.split 90 rfl (fun g18 => ?_) (fun g18 => ?_)
  ·refine tg 3 rfl g18 (fA fl31_4) ?_
   refine na ?_
   refine tg 4 rfl g18 (Qt.load1 rfl rfl rfl ag26) ?_
   refine tg 5 rfl g18 Qt.move ?_
   refine tg 6 rfl g18 (Qt.binOp rfl rfl (by first | exact pbSub (by omega) | rfl)) ?_
   refine na ?_
   refine tg 7 rfl g18 (ix sl26 sz130) ?_
   refine tg 8 rfl g18 (fA fl130_0) ?_
   refine tg 9 rfl g18 (Qt.load1 rfl rfl rfl ag3) ?_
   refine na ?_
   refine tg 10 rfl g18 (fA fl130_0) ?_
   refine tg 11 rfl g18 (Qt.load1 rfl rfl rfl ag3) ?_
   refine tg 12 rfl g18 (Qt.binOp rfl rfl rfl) ?_
   refine na ?_
   refine tk 13 rfl (Qt.pickT rfl g18) ?_
   refine tk 14 rfl Qt.move ?_
   refine AWA.split 102 rfl (fun g19 => ?_) (fun g19 => ?_)
   ·refine tf 15 (nT g19) ?_
    refine na ?_
    refine tf 16 (nT g19) ?_
    refine o1 17 [] [16, 15, 14, 13, 2, 12, 1, 11, 9, 0, 10, 8, 7, 6, 4, 5, 3] rfl (nT g19) ?_
    refine na ?_
    refine na ?_
    refine tf 18 (nT g19) ?_
    refine tk 19 rfl (Qt.pickT rfl g19) ?_
    refine nz ?_
    refine cd (fun c20 => ?_) fun c20 => ?_
    ·try simp only [cnd] at c20
     have hS := j.stop (by omega) (show (openP u) j.k = false by simp only [openP, rises]; grind only)
     refine sr ?_
     refine qr 2 ?_
     refine rb ?_
     simp only [unixOk, headOk, progsOk, procsOk_eq, opensOk_eq]
     grind only
    try simp only [cnd] at c20
    refine jd (AW.region ?_)
    refine ba ?_
    refine nm ?_
    refine qm ?_
    refine nl ?_
    refine ⟨⟨j.k + 1, by omega, j.next (show (openP u) j.k = true by simp only [openP, rises]; grind only)⟩, Weak.sim ⟨st1, Rf rfl, ⟨rfl, rfl⟩, ⟨rfl, rfl⟩, ⟨rfl, rfl⟩, ⟨rfl, rfl⟩, ⟨rfl, rfl⟩, ⟨rfl, rfl⟩, ⟨rfl, rfl⟩, Rf rfl, Rf rfl, Rf rfl, Rf rfl, Rf rfl, Rf rfl, Rf rfl, rfl, rfl, rfl, trivial⟩ rfl rfl, ?_⟩
    show u.Opens.length - (j.k + 1) < u.Opens.length - j.k
    omega
   refine tg 15 rfl (nF g19) (Qt.loadG rfl rfl rfl ag31 sz31 (by decide)) ?_
   refine tg 16 rfl (nF g19) (Qt.loadG rfl rfl rfl ag130 sz130 (by decide)) ?_
   refine na ?_
   refine a1 17 [] [16, 15, 14, 13, 2, 12, 1, 11, 9, 0, 10, 8, 7, 6, 4, 5, 3] rfl (nF g19) (Stp.callV rfl (by decide) Tryz.call108 rfl rfl (openOk_con u _ hb)) ?_
   refine na ?_
   refine na ?_
   refine tg 18 rfl (nF g19) (Qt.notB rfl) ?_
   refine tk 19 rfl (Qt.pickF rfl g19) ?_
   refine nz ?_
   refine cd (fun c21 => ?_) fun c21 => ?_
   ·try simp only [cnd] at c21
    have hS := j.stop (by omega) (show (openP u) j.k = false by simp only [openP, rises]; grind only)
    refine sr ?_
    refine qr 2 ?_
    refine rb ?_
    simp only [unixOk, headOk, progsOk, procsOk_eq, opensOk_eq]
    grind only
   try simp only [cnd] at c21
   refine jd (AW.region ?_)
   refine ba ?_
   refine nm ?_
   refine qm ?_
   refine nl ?_
   refine ⟨⟨j.k + 1, by omega, j.next (show (openP u) j.k = true by simp only [openP, rises]; grind only)⟩, Weak.sim ⟨st1, Rf rfl, ⟨rfl, rfl⟩, ⟨rfl, rfl⟩, ⟨rfl, rfl⟩, ⟨rfl, rfl⟩, ⟨rfl, rfl⟩, ⟨rfl, rfl⟩, ⟨rfl, rfl⟩, Rf rfl, Rf rfl, Rf rfl, Rf rfl, Rf rfl, Rf rfl, Rf rfl, rfl, rfl, rfl, trivial⟩ rfl rfl, ?_⟩
   show u.Opens.length - (j.k + 1) < u.Opens.length - j.k
   omega
  refine tf 3 g18 ?_
  refine tf 4 g18 ?_
  refine na ?_
  refine tf 5 g18 ?_
  refine tf 6 g18 ?_
  refine tf 7 g18 ?_
  refine na ?_
  refine tf 8 g18 ?_
  refine tf 9 g18 ?_
  refine tf 10 g18 ?_
  refine na ?_
  refine tf 11 g18 ?_
  refine tf 12 g18 ?_
  refine tk 13 rfl (Qt.pickF rfl g18) ?_
  refine na ?_
  refine tk 14 rfl Qt.move ?_
  refine AWA.split 102 rfl (fun g22 => ?_) (fun g22 => ?_)
  ·refine tf 15 (nT g22) ?_
   refine tf 16 (nT g22) ?_
   refine na ?_
   refine o1 17 [] [16, 15, 14, 13, 2, 12, 1, 11, 9, 0, 10, 8, 7, 6, 4, 5, 3] rfl (nT g22) ?_
   refine na ?_
   refine na ?_
   refine tf 18 (nT g22) ?_
   refine tk 19 rfl (Qt.pickT rfl g22) ?_
   refine nz ?_
   refine cd (fun c23 => ?_) fun c23 => ?_
   ·try simp only [cnd] at c23
    have hS := j.stop (by omega) (show (openP u) j.k = false by simp only [openP, rises]; grind only)
    refine sr ?_
    refine qr 2 ?_
    refine rb ?_
    simp only [unixOk, headOk, progsOk, procsOk_eq, opensOk_eq]
    grind only
   try simp only [cnd] at c23
   refine jd (AW.region ?_)
   refine ba ?_
   refine nm ?_
   refine qm ?_
   refine nl ?_
   refine ⟨⟨j.k + 1, by omega, j.next (show (openP u) j.k = true by simp only [openP, rises]; grind only)⟩, Weak.sim ⟨st1, Rf rfl, ⟨rfl, rfl⟩, ⟨rfl, rfl⟩, ⟨rfl, rfl⟩, ⟨rfl, rfl⟩, ⟨rfl, rfl⟩, ⟨rfl, rfl⟩, ⟨rfl, rfl⟩, Rf rfl, Rf rfl, Rf rfl, Rf rfl, Rf rfl, Rf rfl, Rf rfl, rfl, rfl, rfl, trivial⟩ rfl rfl, ?_⟩
   show u.Opens.length - (j.k + 1) < u.Opens.length - j.k
   omega
  refine tg 15 rfl (nF g22) (Qt.loadG rfl rfl rfl ag31 sz31 (by decide)) ?_
  refine tg 16 rfl (nF g22) (Qt.loadG rfl rfl rfl ag130 sz130 (by decide)) ?_
  refine na ?_
  refine a1 17 [] [16, 15, 14, 13, 2, 12, 1, 11, 9, 0, 10, 8, 7, 6, 4, 5, 3] rfl (nF g22) (Stp.callV rfl (by decide) Tryz.call108 rfl rfl (openOk_con u _ hb)) ?_
  refine na ?_
  refine na ?_
  refine tg 18 rfl (nF g22) (Qt.notB rfl) ?_
  refine tk 19 rfl (Qt.pickF rfl g22) ?_
  refine nz ?_
  refine cd (fun c24 => ?_) fun c24 => ?_
  ·try simp only [cnd] at c24
   have hS := j.stop (by omega) (show (openP u) j.k = false by simp only [openP, rises]; grind only)
   refine sr ?_
   refine qr 2 ?_
   refine rb ?_
   simp only [unixOk, headOk, progsOk, procsOk_eq, opensOk_eq]
   grind only
  try simp only [cnd] at c24
  refine jd (AW.region ?_)
  refine ba ?_
  refine nm ?_
  refine qm ?_
  refine nl ?_
  refine ⟨⟨j.k + 1, by omega, j.next (show (openP u) j.k = true by simp only [openP, rises]; grind only)⟩, Weak.sim ⟨st1, Rf rfl, ⟨rfl, rfl⟩, ⟨rfl, rfl⟩, ⟨rfl, rfl⟩, ⟨rfl, rfl⟩, ⟨rfl, rfl⟩, ⟨rfl, rfl⟩, ⟨rfl, rfl⟩, Rf rfl, Rf rfl, Rf rfl, Rf rfl, Rf rfl, Rf rfl, Rf rfl, rfl, rfl, rfl, trivial⟩ rfl rfl, ?_⟩
  show u.Opens.length - (j.k + 1) < u.Opens.length - j.k
  omega
 try simp only [cnd] at c17
 have hB := j.full (by omega)
 have hM := mem_pages (l := u.Procs) (fun i hi => by have := procOk_parts (procsOk_at hP hi).2; omega) _ (Nat.le_refl _)
 have hRd : decide (srt u.Ready = wantOf u.Procs) = readyOk u := by rw [← ready_eq hP, Bool.eq_iff_iff]; simp
 refine AW.exit ?_
 dsimp only [thenQ, blockQ, reduceIte]
 refine sr ?_
 refine qG ag31 sz31 ?_
 refine cv Tryz.call109 rfl rfl (wordsI_con u hb) ?_
 refine nm ?_
 refine qb ?_
 refine qm ?_
 apply AWL.cut 2
 ·intro Kg25
  refine AWL.split 112 rfl (fun g25 => ?_) (fun g25 => ?_)
  ·refine qg g25 (Qt.loadG rfl rfl rfl ag31 sz31 (by decide)) ?_
   refine nm ?_
   refine AWL.step rfl g25 (Stp.callV rfl (by decide) Tryz.call110 rfl rfl (pipesOkI_con u)) ?_
   refine nm ?_
   exact wj 114 [113, 114] (ifT g25 _ undef) (by simp only [go_sem, reduceIte, Nat.reduceEqDiff, Nat.reduceBEq, reduceCtorEq]; rfl) Kg25
  ·refine og g25 ?_
   refine og g25 ?_
   exact wj 114 [113, 114] (ifF g25 undef _) (by simp only [go_sem, reduceIte, Nat.reduceEqDiff, Nat.reduceBEq, reduceCtorEq]) Kg25
 refine qq (Qt.pickAnd rfl rfl rfl) ?_
 refine qm ?_
 apply AWL.cut 3
 ·intro Kg26
  refine AWL.split 116 rfl (fun g26 => ?_) (fun g26 => ?_)
  ·refine qg g26 (fA fl31_6) ?_
   refine nm ?_
   refine qg g26 (Qt.load1 rfl rfl rfl ag28) ?_
   refine AWL.step rfl g26 (Stp.callV rfl (by decide) Tryz.call111 rfl rfl (filesOkI_con _)) ?_
   refine nm ?_
   exact wj 119 [117, 118, 119] (ifT g26 _ undef) (by simp only [go_sem, reduceIte, Nat.reduceEqDiff, Nat.reduceBEq, reduceCtorEq]; rfl) Kg26
  ·refine og g26 ?_
   refine og g26 ?_
   refine og g26 ?_
   exact wj 119 [117, 118, 119] (ifF g26 undef _) (by simp only [go_sem, reduceIte, Nat.reduceEqDiff, Nat.reduceBEq, reduceCtorEq]) Kg26
 refine qq (Qt.pickAnd rfl rfl rfl) ?_
 refine qm ?_
 apply AWL.cut 2
 ·intro Kg27
  refine AWL.split 121 rfl (fun g27 => ?_) (fun g27 => ?_)
  ·refine qg g27 (Qt.loadG rfl rfl rfl ag31 sz31 (by decide)) ?_
   refine nm ?_
   refine AWL.step rfl g27 (Stp.callV rfl (by decide) Tryz.call112 rfl rfl (readyOkI_con u hb)) ?_
   refine nm ?_
   exact wj 123 [122, 123] (ifT g27 _ undef) (by simp only [go_sem, reduceIte, Nat.reduceEqDiff, Nat.reduceBEq, reduceCtorEq]; rfl) Kg27
  ·refine og g27 ?_
   refine og g27 ?_
   exact wj 123 [122, 123] (ifF g27 undef _) (by simp only [go_sem, reduceIte, Nat.reduceEqDiff, Nat.reduceBEq, reduceCtorEq]) Kg27
 refine qq (Qt.pickAnd rfl rfl rfl) ?_
 refine qr 2 ?_
 refine rb ?_
 simp only [unixOk, headOk, progsOk, procsOk_eq, opensOk_eq]
 grind only
end Go.Proofs.YtfbefcmeghpalaaGreat.VM
