/- Contracts of functions of the program. No conditions beyond those that each states. -/
import Derived.Test.YtfbefcmeghpalaaGreatCW5
set_option linter.all false
set_option maxHeartbeats 8000000
set_option maxRecDepth 10000
namespace Go.Proofs.YtfbefcmeghpalaaGreat.VM
open Go Go.RowKit Go.Proofs
theorem cloneUnix_con (u : DUnix) (hw : Mk.wt u ≤ 1048576) : Con Tryz.prog 73 [.g [.v (iv u.Next), .v (iv u.Tick), .h base [], .h (base + 1) [], .h (base + 2) [], .h (base + 3) [], .h (base + 4) [], .h (base + 5) [], .h (base + 6) []]] [.rt base .ro (tr u.Progs), .rt (base + 1) .ro (tr u.Procs), .rt (base + 2) .ro (tr u.Opens), .rt (base + 3) .ro (tr u.Pipes), .rt (base + 4) .ro (tr u.Files), .rt (base + 5) .ro (tr u.Ready), .rt (base + 6) .ro (tr u.Out)] (Ret (.g [.v (iv u.Next), .v (iv u.Tick), .h 0 [], .h 1 [], .h 2 [], .h 3 [], .h 4 [], .h 5 [], .h 6 []]) [(0, .row, tr u.Progs), (1, .row, tr u.Procs), (2, .row, tr u.Opens), (3, .row, tr u.Pipes), (4, .row, tr u.Files), (5, .row, tr u.Ready), (6, .row, tr u.Out)]) := by
 refine ob Tryz.func73 Tryz.ntmps73 ?_
 refine AW.len (base + 1) [] rfl (by simp [Okp]) rfl (fun hl => ?_)
 refine AW.len (base + 3) [] rfl (by simp [Okp]) rfl (fun hl3 => ?_)
 have hwu : Mk.wt u.Progs + Mk.wt u.Procs + Mk.wt u.Opens + Mk.wt u.Pipes + Mk.wt u.Files + Mk.wt u.Ready + Mk.wt u.Out ≤ 1048576 := hw
 have hw1 := wt_len u.Procs
 have hw2 := wt_len u.Opens
 have hw3 := wt_len u.Pipes
 have hw4 := wt_len u.Ready
 have hw5 := wt_len u.Out
 refine sr ?_
 refine bx ?_
 refine nm ?_
 refine sp sA ?_
 refine nl ?_
 refine AW.seq ?_
 refine AW.draw [0, 1, 2, 3, 4, 5, 7, 8, 10, 11, 13, 14, 16, 17, 19] rfl (by decide +kernel) ?_
 refine tk 0 rfl (fA fl31_0) ?_
 refine na ?_
 refine tk 1 rfl (Qt.load1 rfl rfl rfl ag3) ?_
 refine tk 2 rfl (fA fl31_1) ?_
 refine tk 3 rfl (Qt.load1 rfl rfl rfl ag3) ?_
 refine na ?_
 refine tk 4 rfl (fA fl31_2) ?_
 refine tk 5 rfl (Qt.load1 rfl rfl rfl ag24) ?_
 refine tk 7 rfl (fA fl31_4) ?_
 refine na ?_
 refine tk 8 rfl (Qt.load1 rfl rfl rfl ag26) ?_
 refine tk 10 rfl (fA fl31_6) ?_
 refine tk 11 rfl (Qt.load1 rfl rfl rfl ag28) ?_
 refine na ?_
 refine tk 13 rfl (fA fl31_7) ?_
 refine tk 14 rfl (Qt.load1 rfl rfl rfl ag29) ?_
 refine tk 16 rfl (fA fl31_8) ?_
 refine na ?_
 refine tk 17 rfl (Qt.load1 rfl rfl rfl ag29) ?_
 apply AWA.cutS #[true, true, true, true, true, true, true, true, true, true, true, true, true, true, true, true, true, true, true, true, true, false] [0, 1, 2, 3, 19]
 ·intro K1_4
  apply AWA.cutS #[true, true, true, true, true, true, true, true, true, true, true, true, true, true, true, true, true, true, false, false, true, false] [0, 1, 2, 3, 16, 17]
  ·intro K1_3
   apply AWA.cutS #[true, true, true, true, true, true, true, true, true, true, true, true, true, true, true, false, true, true, false, false, true, false] [0, 1, 2, 3, 13, 14, 16, 17]
   ·intro K1_2
    apply AWA.cutS #[true, true, true, true, true, true, true, true, true, true, true, true, false, true, true, false, true, true, false, false, true, false] [0, 1, 2, 3, 10, 11, 13, 14, 16, 17]
    ·intro K1_1
     apply AWA.cutS #[true, true, true, true, true, true, true, true, true, false, true, true, false, true, true, false, true, true, false, false, true, false] [0, 1, 2, 3, 7, 8, 10, 11, 13, 14, 16, 17]
     ·intro K1_0
      refine AWA.anyL [6, 20] (by decide +kernel) rfl ⟨?_, ?_, trivial⟩
      ·refine AWA.arm 6 [0, 1, 2, 3, 7, 8, 10, 11, 13, 14, 16, 17] [5, 4] rfl rfl rfl (by decide +kernel) (by decide +kernel) (by decide +kernel) (Stp.callR rfl (by decide) Tryz.call157 rfl rfl (cloneProgs_con _ (by omega)) (nodup_of rfl) rfl rfl) ?_
       refine na ?_
       refine ae rfl (fA fl31_0) ?_
       refine ae rfl (Qt.load1 rfl rfl rfl ag3) ?_
       refine ae rfl (fA fl31_1) ?_
       refine na ?_
       refine ae rfl (Qt.load1 rfl rfl rfl ag3) ?_
       refine ae rfl (fA fl31_4) ?_
       refine ae rfl (Qt.load1 rfl rfl rfl ag26) ?_
       refine na ?_
       refine ae rfl (fA fl31_6) ?_
       refine ae rfl (Qt.load1 rfl rfl rfl ag28) ?_
       refine ae rfl (fA fl31_7) ?_
       refine na ?_
       refine ae rfl (Qt.load1 rfl rfl rfl ag29) ?_
       refine ae rfl (fA fl31_8) ?_
       refine ae rfl (Qt.load1 rfl rfl rfl ag29) ?_
       refine na ?_
       refine AWA.anyL [9, 20] (by decide +kernel) rfl ⟨?_, ?_, trivial⟩
       ·refine AWA.arm 9 [0, 1, 2, 3, 10, 11, 13, 14, 16, 17] [8, 6, 7, 5, 4] rfl rfl rfl (by decide +kernel) (by decide +kernel) (by decide +kernel) (Stp.callR rfl (by decide) Tryz.call158 rfl rfl (cloneO_con _ (by omega)) (nodup_of rfl) rfl rfl) ?_
        refine na ?_
        refine ae rfl (fA fl31_0) ?_
        refine ae rfl (Qt.load1 rfl rfl rfl ag3) ?_
        refine ae rfl (fA fl31_1) ?_
        refine na ?_
        refine ae rfl (Qt.load1 rfl rfl rfl ag3) ?_
        refine ae rfl (fA fl31_6) ?_
        refine ae rfl (Qt.load1 rfl rfl rfl ag28) ?_
        refine na ?_
        refine ae rfl (fA fl31_7) ?_
        refine ae rfl (Qt.load1 rfl rfl rfl ag29) ?_
        refine ae rfl (fA fl31_8) ?_
        refine na ?_
        refine ae rfl (Qt.load1 rfl rfl rfl ag29) ?_
        refine na ?_
        refine AWA.anyL [12, 20] (by decide +kernel) rfl ⟨?_, ?_, trivial⟩
        ·refine AWA.arm 12 [0, 1, 2, 3, 13, 14, 16, 17] [11, 9, 10, 8, 6, 7, 5, 4] rfl rfl rfl (by decide +kernel) (by decide +kernel) (by decide +kernel) (Stp.callR rfl (by decide) Tryz.call159 rfl rfl (cloneFiles_con _ (by omega)) (nodup_of rfl) rfl rfl) ?_
         refine na ?_
         refine ae rfl (fA fl31_0) ?_
         refine ae rfl (Qt.load1 rfl rfl rfl ag3) ?_
         refine ae rfl (fA fl31_1) ?_
         refine na ?_
         refine ae rfl (Qt.load1 rfl rfl rfl ag3) ?_
         refine ae rfl (fA fl31_7) ?_
         refine ae rfl (Qt.load1 rfl rfl rfl ag29) ?_
         refine na ?_
         refine ae rfl (fA fl31_8) ?_
         refine ae rfl (Qt.load1 rfl rfl rfl ag29) ?_
         refine na ?_
         refine AWA.anyL [15, 20] (by decide +kernel) rfl ⟨?_, ?_, trivial⟩
         ·refine AWA.arm 15 [0, 1, 2, 3, 16, 17] [14, 12, 13, 11, 9, 10, 8, 6, 7, 5, 4] rfl rfl rfl (by decide +kernel) (by decide +kernel) (by decide +kernel) (Stp.callR rfl (by decide) Tryz.call160 rfl rfl (cloneI_con _ (by omega)) (nodup_of rfl) rfl rfl) ?_
          refine na ?_
          refine ae rfl (fA fl31_0) ?_
          refine ae rfl (Qt.load1 rfl rfl rfl ag3) ?_
          refine ae rfl (fA fl31_1) ?_
          refine na ?_
          refine ae rfl (Qt.load1 rfl rfl rfl ag3) ?_
          refine ae rfl (fA fl31_8) ?_
          refine ae rfl (Qt.load1 rfl rfl rfl ag29) ?_
          refine na ?_
          refine AWA.anyL [18, 20] (by decide +kernel) rfl ⟨?_, ?_, trivial⟩
          ·refine AWA.arm 18 [0, 1, 2, 3] [17, 15, 16, 14, 12, 13, 11, 9, 10, 8, 6, 7, 5, 4] rfl rfl rfl (by decide +kernel) (by decide +kernel) (by decide +kernel) (Stp.callR rfl (by decide) Tryz.call160 rfl rfl (cloneI_con _ (by omega)) (nodup_of rfl) rfl rfl) ?_
           refine na ?_
           refine ae rfl (fA fl31_0) ?_
           refine ae rfl (Qt.load1 rfl rfl rfl ag3) ?_
           refine ae rfl (fA fl31_1) ?_
           refine na ?_
           refine ae rfl (Qt.load1 rfl rfl rfl ag3) ?_
           refine na ?_
           refine AWA.take 19 rfl rfl rfl (by decide +kernel) (.on rfl rfl (Qt.build rfl)) ?_
           refine AWA.one 20 [0, 1, 2, 3, 19] [] (by decide +kernel) rfl rfl rfl (by decide +kernel) (by decide +kernel) (by decide +kernel) sA ?_
           refine na ?_
           refine ae rfl (fA fl31_0) ?_
           refine ae rfl (Qt.load1 rfl rfl rfl ag3) ?_
           refine ae rfl (fA fl31_1) ?_
           refine na ?_
           refine ae rfl (Qt.load1 rfl rfl rfl ag3) ?_
           refine ae rfl (Qt.build rfl) ?_
           refine na ?_
           exact AWA.use (by decide +kernel) (by decide +kernel) Weak.refl K1_4
          ·refine AWA.arm 20 [0, 1, 2, 3, 16, 17] [] rfl rfl rfl (by decide +kernel) (by decide +kernel) (by decide +kernel) sA ?_
           refine na ?_
           refine ae rfl (fA fl31_0) ?_
           refine ae rfl (Qt.load1 rfl rfl rfl ag3) ?_
           refine ae rfl (fA fl31_1) ?_
           refine na ?_
           refine ae rfl (Qt.load1 rfl rfl rfl ag3) ?_
           refine ae rfl (fA fl31_8) ?_
           refine ae rfl (Qt.load1 rfl rfl rfl ag29) ?_
           refine na ?_
           exact AWA.use (by decide +kernel) (by decide +kernel) Weak.refl K1_3
         ·refine AWA.arm 20 [0, 1, 2, 3, 13, 14, 16, 17] [] rfl rfl rfl (by decide +kernel) (by decide +kernel) (by decide +kernel) sA ?_
          refine na ?_
          refine ae rfl (fA fl31_0) ?_
          refine ae rfl (Qt.load1 rfl rfl rfl ag3) ?_
          refine ae rfl (fA fl31_1) ?_
          refine na ?_
          refine ae rfl (Qt.load1 rfl rfl rfl ag3) ?_
          refine ae rfl (fA fl31_7) ?_
          refine ae rfl (Qt.load1 rfl rfl rfl ag29) ?_
          refine na ?_
          refine ae rfl (fA fl31_8) ?_
          refine ae rfl (Qt.load1 rfl rfl rfl ag29) ?_
          refine na ?_
          exact AWA.use (by decide +kernel) (by decide +kernel) Weak.refl K1_2
        ·refine AWA.arm 20 [0, 1, 2, 3, 10, 11, 13, 14, 16, 17] [] rfl rfl rfl (by decide +kernel) (by decide +kernel) (by decide +kernel) sA ?_
         refine na ?_
         refine ae rfl (fA fl31_0) ?_
         refine ae rfl (Qt.load1 rfl rfl rfl ag3) ?_
         refine ae rfl (fA fl31_1) ?_
         refine na ?_
         refine ae rfl (Qt.load1 rfl rfl rfl ag3) ?_
         refine ae rfl (fA fl31_6) ?_
         refine ae rfl (Qt.load1 rfl rfl rfl ag28) ?_
         refine na ?_
         refine ae rfl (fA fl31_7) ?_
         refine ae rfl (Qt.load1 rfl rfl rfl ag29) ?_
         refine ae rfl (fA fl31_8) ?_
         refine na ?_
         refine ae rfl (Qt.load1 rfl rfl rfl ag29) ?_
         refine na ?_
         exact AWA.use (by decide +kernel) (by decide +kernel) Weak.refl K1_1
       ·refine AWA.arm 20 [0, 1, 2, 3, 7, 8, 10, 11, 13, 14, 16, 17] [] rfl rfl rfl (by decide +kernel) (by decide +kernel) (by decide +kernel) sA ?_
        refine na ?_
        refine ae rfl (fA fl31_0) ?_
        refine ae rfl (Qt.load1 rfl rfl rfl ag3) ?_
        refine ae rfl (fA fl31_1) ?_
        refine na ?_
        refine ae rfl (Qt.load1 rfl rfl rfl ag3) ?_
        refine ae rfl (fA fl31_4) ?_
        refine ae rfl (Qt.load1 rfl rfl rfl ag26) ?_
        refine na ?_
        refine ae rfl (fA fl31_6) ?_
        refine ae rfl (Qt.load1 rfl rfl rfl ag28) ?_
        refine ae rfl (fA fl31_7) ?_
        refine na ?_
        refine ae rfl (Qt.load1 rfl rfl rfl ag29) ?_
        refine ae rfl (fA fl31_8) ?_
        refine ae rfl (Qt.load1 rfl rfl rfl ag29) ?_
        refine na ?_
        exact AWA.use (by decide +kernel) (by decide +kernel) Weak.refl K1_0
      ·refine AWA.arm 20 [0, 1, 2, 3, 4, 5, 7, 8, 10, 11, 13, 14, 16, 17] [] rfl rfl rfl (by decide +kernel) (by decide +kernel) (by decide +kernel) sA ?_
       refine na ?_
       refine ae rfl (fA fl31_0) ?_
       refine ae rfl (Qt.load1 rfl rfl rfl ag3) ?_
       refine ae rfl (fA fl31_1) ?_
       refine na ?_
       refine ae rfl (Qt.load1 rfl rfl rfl ag3) ?_
       refine ae rfl (fA fl31_2) ?_
       refine ae rfl (Qt.load1 rfl rfl rfl ag24) ?_
       refine na ?_
       refine ae rfl (fA fl31_4) ?_
       refine ae rfl (Qt.load1 rfl rfl rfl ag26) ?_
       refine ae rfl (fA fl31_6) ?_
       refine na ?_
       refine ae rfl (Qt.load1 rfl rfl rfl ag28) ?_
       refine ae rfl (fA fl31_7) ?_
       refine ae rfl (Qt.load1 rfl rfl rfl ag29) ?_
       refine na ?_
       refine ae rfl (fA fl31_8) ?_
       refine ae rfl (Qt.load1 rfl rfl rfl ag29) ?_
       refine na ?_
       refine AWA.one 6 [0, 1, 2, 3, 7, 8, 10, 11, 13, 14, 16, 17] [5, 4] (by decide +kernel) rfl rfl rfl (by decide +kernel) (by decide +kernel) (by decide +kernel) (Stp.callR rfl (by decide) Tryz.call157 rfl rfl (cloneProgs_con _ (by omega)) (nodup_of rfl) rfl rfl) ?_
       refine na ?_
       refine ae rfl (fA fl31_0) ?_
       refine ae rfl (Qt.load1 rfl rfl rfl ag3) ?_
       refine ae rfl (fA fl31_1) ?_
       refine na ?_
       refine ae rfl (Qt.load1 rfl rfl rfl ag3) ?_
       refine ae rfl (fA fl31_4) ?_
       refine ae rfl (Qt.load1 rfl rfl rfl ag26) ?_
       refine na ?_
       refine ae rfl (fA fl31_6) ?_
       refine ae rfl (Qt.load1 rfl rfl rfl ag28) ?_
       refine ae rfl (fA fl31_7) ?_
       refine na ?_
       refine ae rfl (Qt.load1 rfl rfl rfl ag29) ?_
       refine ae rfl (fA fl31_8) ?_
       refine ae rfl (Qt.load1 rfl rfl rfl ag29) ?_
       refine na ?_
       exact AWA.use (by decide +kernel) (by decide +kernel) (Weak.sim (by repeat (first | exact trivial | refine ⟨rfl, ?_⟩ | refine ⟨⟨_, rfl, T.sim_refl _⟩, ?_⟩ | refine ⟨⟨rfl, rfl⟩, ?_⟩)) rfl rfl) K1_0
     ·refine AWA.one 9 [0, 1, 2, 3, 10, 11, 13, 14, 16, 17] [8, 6, 7, 5, 4] (by decide +kernel) rfl rfl rfl (by decide +kernel) (by decide +kernel) (by decide +kernel) (Stp.callR rfl (by decide) Tryz.call158 rfl rfl (cloneO_con _ (by omega)) (nodup_of rfl) rfl rfl) ?_
      refine na ?_
      refine ae rfl (fA fl31_0) ?_
      refine ae rfl (Qt.load1 rfl rfl rfl ag3) ?_
      refine ae rfl (fA fl31_1) ?_
      refine na ?_
      refine ae rfl (Qt.load1 rfl rfl rfl ag3) ?_
      refine ae rfl (fA fl31_6) ?_
      refine ae rfl (Qt.load1 rfl rfl rfl ag28) ?_
      refine na ?_
      refine ae rfl (fA fl31_7) ?_
      refine ae rfl (Qt.load1 rfl rfl rfl ag29) ?_
      refine ae rfl (fA fl31_8) ?_
      refine na ?_
      refine ae rfl (Qt.load1 rfl rfl rfl ag29) ?_
      refine na ?_
      exact AWA.use (by decide +kernel) (by decide +kernel) (Weak.sim (by repeat (first | exact trivial | refine ⟨rfl, ?_⟩ | refine ⟨⟨_, rfl, T.sim_refl _⟩, ?_⟩ | refine ⟨⟨rfl, rfl⟩, ?_⟩)) rfl rfl) K1_1
    ·refine AWA.one 12 [0, 1, 2, 3, 13, 14, 16, 17] [11, 9, 10, 8, 6, 7, 5, 4] (by decide +kernel) rfl rfl rfl (by decide +kernel) (by decide +kernel) (by decide +kernel) (Stp.callR rfl (by decide) Tryz.call159 rfl rfl (cloneFiles_con _ (by omega)) (nodup_of rfl) rfl rfl) ?_
     refine na ?_
     refine ae rfl (fA fl31_0) ?_
     refine ae rfl (Qt.load1 rfl rfl rfl ag3) ?_
     refine ae rfl (fA fl31_1) ?_
     refine na ?_
     refine ae rfl (Qt.load1 rfl rfl rfl ag3) ?_
     refine ae rfl (fA fl31_7) ?_
     refine ae rfl (Qt.load1 rfl rfl rfl ag29) ?_
     refine na ?_
     refine ae rfl (fA fl31_8) ?_
     refine ae rfl (Qt.load1 rfl rfl rfl ag29) ?_
     refine na ?_
     exact AWA.use (by decide +kernel) (by decide +kernel) (Weak.sim (by repeat (first | exact trivial | refine ⟨rfl, ?_⟩ | refine ⟨⟨_, rfl, T.sim_refl _⟩, ?_⟩ | refine ⟨⟨rfl, rfl⟩, ?_⟩)) rfl rfl) K1_2
   ·refine AWA.one 15 [0, 1, 2, 3, 16, 17] [14, 12, 13, 11, 9, 10, 8, 6, 7, 5, 4] (by decide +kernel) rfl rfl rfl (by decide +kernel) (by decide +kernel) (by decide +kernel) (Stp.callR rfl (by decide) Tryz.call160 rfl rfl (cloneI_con _ (by omega)) (nodup_of rfl) rfl rfl) ?_
    refine na ?_
    refine ae rfl (fA fl31_0) ?_
    refine ae rfl (Qt.load1 rfl rfl rfl ag3) ?_
    refine ae rfl (fA fl31_1) ?_
    refine na ?_
    refine ae rfl (Qt.load1 rfl rfl rfl ag3) ?_
    refine ae rfl (fA fl31_8) ?_
    refine ae rfl (Qt.load1 rfl rfl rfl ag29) ?_
    refine na ?_
    exact AWA.use (by decide +kernel) (by decide +kernel) (Weak.sim (by repeat (first | exact trivial | refine ⟨rfl, ?_⟩ | refine ⟨⟨_, rfl, T.sim_refl _⟩, ?_⟩ | refine ⟨⟨rfl, rfl⟩, ?_⟩)) rfl rfl) K1_3
  ·refine AWA.one 18 [0, 1, 2, 3] [17, 15, 16, 14, 12, 13, 11, 9, 10, 8, 6, 7, 5, 4] (by decide +kernel) rfl rfl rfl (by decide +kernel) (by decide +kernel) (by decide +kernel) (Stp.callR rfl (by decide) Tryz.call160 rfl rfl (cloneI_con _ (by omega)) (nodup_of rfl) rfl rfl) ?_
   refine na ?_
   refine ae rfl (fA fl31_0) ?_
   refine ae rfl (Qt.load1 rfl rfl rfl ag3) ?_
   refine ae rfl (fA fl31_1) ?_
   refine na ?_
   refine ae rfl (Qt.load1 rfl rfl rfl ag3) ?_
   refine na ?_
   refine AWA.take 19 rfl rfl rfl (by decide +kernel) (.on rfl rfl (Qt.build rfl)) ?_
   refine na ?_
   exact AWA.use (by decide +kernel) (by decide +kernel) (Weak.sim (by repeat (first | exact trivial | refine ⟨rfl, ?_⟩ | refine ⟨⟨_, rfl, T.sim_refl _⟩, ?_⟩ | refine ⟨⟨rfl, rfl⟩, ?_⟩)) rfl rfl) K1_4
 ·refine AWA.one 21 [] [20, 19, 18, 17, 16, 15, 14, 13, 12, 11, 10, 9, 8, 7, 6, 5, 4, 3, 2, 1, 0] (by decide +kernel) rfl rfl rfl (by decide +kernel) (by decide +kernel) (by decide +kernel) (by first | exact Stp.storeA rfl rfl rfl rfl (by decide) rfl | exact Stp.store rfl rfl (by simp) rfl rfl rfl (by decide) rfl) ?_
  refine na ?_
  refine nz ?_
  refine sr2 ?_
  refine qq (fA fl31_3) ?_
  refine ql ag25 ?_
  refine nm ?_
  refine qh sl25 ?_
  refine qm ?_
  refine nl ?_
  refine AW.block ?_
  refine AW.weak (Weak.hoist 3 3 40 rfl (by decide) rfl rfl rfl) ?_
  refine AW.weak (L' := (.sl 31 (.v (iv (0 : Nat))) :: .sl 2 (.p 2 [] 9 0 0) :: .sl 3 (.p 3 [] 9 0 0) :: .rt 1 .box (T.s 9 1 fun k c => ([(T.v (iv u.Next), none), (T.v (iv u.Tick), none), (T.j, none), (T.j, none), (T.j, none), (T.j, none), (T.j, none), (T.j, none), (T.j, none)].getD (k * 9 + c) (T.j, none)).fst) :: .al 1 2 (.h base []) :: .al 1 3 (.h (base + 1) []) :: .al 1 4 (.h (base + 2) []) :: .al 1 5 (.h (base + 3) []) :: .al 1 6 (.h (base + 4) []) :: .al 1 7 (.h (base + 5) []) :: .al 1 8 (.h (base + 6) []) :: .rt base .ro (tr u.Progs) :: .rt (base + 1) .ro (tr u.Procs) :: .rt (base + 2) .ro (tr u.Opens) :: .rt (base + 3) .ro (tr u.Pipes) :: .rt (base + 4) .ro (tr u.Files) :: .rt (base + 5) .ro (tr u.Ready) :: .rt (base + 6) .ro (tr u.Out) :: .sl 1 (.p 1 [] 9 0 0) :: .sl 29 (.h (base + 1) []) :: .sl 30 (.v (iv u.Procs.length)) :: .rt 2 .box (T.s 9 1 fun _ c => [T.v (iv 0), T.v (iv 0), T.s 1 0 fun _ _ => T.j, T.s 10 0 fun _ _ => T.j, T.s 5 0 fun _ _ => T.j, T.s 2 0 fun _ _ => T.j, T.s 2 0 fun _ _ => T.j, T.s 1 0 fun _ _ => T.j, T.s 1 0 fun _ _ => T.j].getD c T.j) :: .rt 3 .box (T.s 9 1 fun _ c => [T.v (iv u.Next), T.v (iv u.Tick), T.j, T.j, T.j, T.s 2 0 fun _ _ => T.j, T.j, T.j, T.j].getD c T.j) :: .al 3 3 (.h 40 []) :: .rt 40 .row (tr (u.Procs.take (0 : Nat))) :: .al 3 2 (.h 14 []) :: .al 3 4 (.h 17 []) :: .al 3 6 (.h 20 []) :: .al 3 7 (.h 23 []) :: .al 3 8 (.h 26 []) :: .rt 14 .row (tr u.Progs) :: .rt 17 .row (tr u.Opens) :: .rt 20 .row (tr u.Files) :: .rt 23 .row (tr u.Ready) :: .rt 26 .row (tr u.Out) :: [])) (Weak.sim ⟨rfl, rfl, rfl, Rf rfl, ⟨rfl, rfl⟩, ⟨rfl, rfl⟩, ⟨rfl, rfl⟩, ⟨rfl, rfl⟩, ⟨rfl, rfl⟩, ⟨rfl, rfl⟩, ⟨rfl, rfl⟩, Rf rfl, Rf rfl, Rf rfl, Rf rfl, Rf rfl, Rf rfl, Rf rfl, rfl, rfl, rfl, Rf rfl, ⟨_, rfl, (sc_sim (n := 9) (fun c hc => match c, hc with | 0, _ => T.sim_refl _ | 1, _ => T.sim_refl _ | 2, _ => T.sim_refl _ | 3, _ => T.sim_refl _ | 4, _ => T.sim_refl _ | 5, _ => T.sim_refl _ | 6, _ => T.sim_refl _ | 7, _ => T.sim_refl _ | 8, _ => T.sim_refl _ | c + 9, hc => absurd hc (by omega)))⟩, ⟨rfl, rfl⟩, ⟨_, rfl, sim_nil⟩, ⟨rfl, rfl⟩, ⟨rfl, rfl⟩, ⟨rfl, rfl⟩, ⟨rfl, rfl⟩, ⟨rfl, rfl⟩, Rf rfl, Rf rfl, Rf rfl, Rf rfl, Rf rfl, trivial⟩ rfl rfl) ?_
  refine AW.loop (fun i : KInv u.Procs.length => (.sl 31 (.v (iv i.k)) :: .sl 2 (.p 2 [] 9 0 0) :: .sl 3 (.p 3 [] 9 0 0) :: .rt 1 .box (T.s 9 1 fun k c => ([(T.v (iv u.Next), none), (T.v (iv u.Tick), none), (T.j, none), (T.j, none), (T.j, none), (T.j, none), (T.j, none), (T.j, none), (T.j, none)].getD (k * 9 + c) (T.j, none)).fst) :: .al 1 2 (.h base []) :: .al 1 3 (.h (base + 1) []) :: .al 1 4 (.h (base + 2) []) :: .al 1 5 (.h (base + 3) []) :: .al 1 6 (.h (base + 4) []) :: .al 1 7 (.h (base + 5) []) :: .al 1 8 (.h (base + 6) []) :: .rt base .ro (tr u.Progs) :: .rt (base + 1) .ro (tr u.Procs) :: .rt (base + 2) .ro (tr u.Opens) :: .rt (base + 3) .ro (tr u.Pipes) :: .rt (base + 4) .ro (tr u.Files) :: .rt (base + 5) .ro (tr u.Ready) :: .rt (base + 6) .ro (tr u.Out) :: .sl 1 (.p 1 [] 9 0 0) :: .sl 29 (.h (base + 1) []) :: .sl 30 (.v (iv u.Procs.length)) :: .rt 2 .box (T.s 9 1 fun _ c => [T.v (iv 0), T.v (iv 0), T.s 1 0 fun _ _ => T.j, T.s 10 0 fun _ _ => T.j, T.s 5 0 fun _ _ => T.j, T.s 2 0 fun _ _ => T.j, T.s 2 0 fun _ _ => T.j, T.s 1 0 fun _ _ => T.j, T.s 1 0 fun _ _ => T.j].getD c T.j) :: .rt 3 .box (T.s 9 1 fun _ c => [T.v (iv u.Next), T.v (iv u.Tick), T.j, T.j, T.j, T.s 2 0 fun _ _ => T.j, T.j, T.j, T.j].getD c T.j) :: .al 3 3 (.h 40 []) :: .rt 40 .row (tr (u.Procs.take i.k)) :: .al 3 2 (.h 14 []) :: .al 3 4 (.h 17 []) :: .al 3 6 (.h 20 []) :: .al 3 7 (.h 23 []) :: .al 3 8 (.h 26 []) :: .rt 14 .row (tr u.Progs) :: .rt 17 .row (tr u.Opens) :: .rt 20 .row (tr u.Files) :: .rt 23 .row (tr u.Ready) :: .rt 26 .row (tr u.Out) :: [])) (fun i => u.Procs.length - i.k) ⟨0, Nat.zero_le _⟩ ?_
  intro i
  have hle := i.le
  refine sr ?_
  refine qb ?_
  refine nl ?_
  refine AW.seq ?_
  refine cd (fun c1 => ?_) fun c1 => ?_
  ·try simp only [cnd] at c1
   have hik := wt_ge (show i.k < u.Procs.length by omega)
   have htl : (u.Procs.take i.k).length ≤ 1048576 := by rw [List.length_take]; omega
   refine jd (AW.seq (AW.block (sr ?_)))
   refine qq (ix sl25 sz72) ?_
   refine nm ?_
   refine qG ag72 sz72 ?_
   refine sp sA ?_
   refine nm ?_
   refine ss ?_
   refine nl ?_
   refine AW.draw [0, 1, 2, 6] rfl (by decide +kernel) ?_
   refine tk 0 rfl (fA fl31_3) ?_
   refine na ?_
   refine tk 1 rfl (Qt.load1 rfl rfl rfl ag25) ?_
   refine tk 2 rfl (Qt.loadG rfl rfl rfl ag72 sz72 (by decide)) ?_
   refine a1 3 [0, 1] [2] rfl rfl (Stp.callR rfl (by decide) Tryz.call161 rfl rfl (cloneProc_con _ (by omega)) (nodup_of rfl) rfl rfl) ?_
   refine na ?_
   refine na ?_
   refine ae rfl (fA fl31_3) ?_
   refine na ?_
   refine ae rfl (Qt.load1 rfl rfl rfl ag25) ?_
   refine na ?_
   refine a1 4 [0, 1] [3, 2] rfl rfl sS ?_
   refine na ?_
   refine na ?_
   refine ae rfl (fA fl31_3) ?_
   refine na ?_
   refine ae rfl (Qt.load1 rfl rfl rfl ag25) ?_
   refine na ?_
   refine AWA.rep 39 (tr [(u.Procs.getD i.k En.dflt)]) rfl (row1_sim (α := DProc) (fun c hc => match c, hc with | 0, _ => T.sim_refl _ | 1, _ => T.sim_refl _ | 2, _ => T.sim_refl _ | 3, _ => T.sim_refl _ | 4, _ => T.sim_refl _ | 5, _ => T.sim_refl _ | 6, _ => T.sim_refl _ | 7, _ => T.sim_refl _ | 8, _ => T.sim_refl _ | 9, _ => T.sim_refl _ | c + 10, hc => absurd hc (by simp only [En.n]; omega))) ?_
   refine na ?_
   refine a1 5 [] [4, 3, 1, 2, 0] rfl rfl (Stp.appendM rfl (by decide) (by decide) rfl rfl rfl (by simp only [List.length_cons, List.length_nil]; omega)) ?_
   refine na ?_
   refine na ?_
   refine AWA.rep 40 (tr (u.Procs.take (i.k + 1))) rfl (by rw [take_snocG En.dflt (show i.k < u.Procs.length by omega)]; exact app_sim (l := u.Procs.take i.k) (l' := [u.Procs.getD i.k En.dflt]) rfl (fun _ _ _ _ => rfl) (fun _ _ _ _ => rfl)) ?_
   refine na ?_
   refine tk 6 rfl (fA fl31_3) ?_
   refine a1 7 [] [6, 5, 4, 3, 2, 1, 0] rfl rfl (by first | exact Stp.storeA rfl rfl rfl rfl (by decide) rfl | exact Stp.store rfl rfl (by simp) rfl rfl rfl (by decide) rfl) ?_
   refine na ?_
   refine na ?_
   refine nz ?_
   refine AW.region ?_
   refine ba ?_
   refine qm ?_
   refine nl ?_
   refine ⟨⟨i.k + 1, by omega⟩, Weak.sim ⟨st1, rfl, rfl, Rf rfl, ⟨rfl, rfl⟩, ⟨rfl, rfl⟩, ⟨rfl, rfl⟩, ⟨rfl, rfl⟩, ⟨rfl, rfl⟩, ⟨rfl, rfl⟩, ⟨rfl, rfl⟩, Rf rfl, Rf rfl, Rf rfl, Rf rfl, Rf rfl, Rf rfl, Rf rfl, rfl, rfl, rfl, Rf rfl, ⟨_, rfl, (sc_sim (n := 9) (fun c hc => match c, hc with | 0, _ => T.sim_refl _ | 1, _ => T.sim_refl _ | 2, _ => T.sim_refl _ | 3, _ => T.sim_refl _ | 4, _ => T.sim_refl _ | 5, _ => T.sim_refl _ | 6, _ => T.sim_refl _ | 7, _ => T.sim_refl _ | 8, _ => T.sim_refl _ | c + 9, hc => absurd hc (by omega)))⟩, ⟨rfl, rfl⟩, Rf rfl, ⟨rfl, rfl⟩, ⟨rfl, rfl⟩, ⟨rfl, rfl⟩, ⟨rfl, rfl⟩, ⟨rfl, rfl⟩, Rf rfl, Rf rfl, Rf rfl, Rf rfl, Rf rfl, trivial⟩ rfl rfl, ?_⟩
   show u.Procs.length - (i.k + 1) < u.Procs.length - i.k
   omega
  try simp only [cnd] at c1
  refine AW.exit ?_
  dsimp only [thenQ, blockQ, reduceIte]
  refine sr2 ?_
  refine qq (fA fl31_5) ?_
  refine nm ?_
  refine ql ag27 ?_
  refine qh sl27 ?_
  refine qm ?_
  refine nl ?_
  refine AW.block ?_
  refine AW.weak (Weak.hoist 3 5 59 rfl (by decide) rfl rfl rfl) ?_
  refine AW.rep 40 (tr u.Procs) rfl (by rw [List.take_of_length_le (by omega)]; exact T.sim_refl _) ?_
  refine AW.weak (L' := (.sl 46 (.v (iv (0 : Nat))) :: .sl 2 (.p 2 [] 9 0 0) :: .sl 3 (.p 3 [] 9 0 0) :: .sl 44 (.h (base + 3) []) :: .sl 45 (.v (iv u.Pipes.length)) :: .rt base .ro (tr u.Progs) :: .rt (base + 1) .ro (tr u.Procs) :: .rt (base + 2) .ro (tr u.Opens) :: .rt (base + 3) .ro (tr u.Pipes) :: .rt (base + 4) .ro (tr u.Files) :: .rt (base + 5) .ro (tr u.Ready) :: .rt (base + 6) .ro (tr u.Out) :: .rt 2 .box (T.s 9 1 fun _ c => [T.v (iv 0), T.v (iv 0), T.s 1 0 fun _ _ => T.j, T.s 10 0 fun _ _ => T.j, T.s 5 0 fun _ _ => T.j, T.s 2 0 fun _ _ => T.j, T.s 2 0 fun _ _ => T.j, T.s 1 0 fun _ _ => T.j, T.s 1 0 fun _ _ => T.j].getD c T.j) :: .rt 3 .box (T.s 9 1 fun _ c => [T.v (iv u.Next), T.v (iv u.Tick), T.j, T.j, T.j, T.j, T.j, T.j, T.j].getD c T.j) :: .al 3 3 (.h 40 []) :: .rt 40 .row (tr u.Procs) :: .al 3 5 (.h 59 []) :: .rt 59 .row (tr (u.Pipes.take (0 : Nat))) :: .al 3 2 (.h 14 []) :: .al 3 4 (.h 17 []) :: .al 3 6 (.h 20 []) :: .al 3 7 (.h 23 []) :: .al 3 8 (.h 26 []) :: .rt 14 .row (tr u.Progs) :: .rt 17 .row (tr u.Opens) :: .rt 20 .row (tr u.Files) :: .rt 23 .row (tr u.Ready) :: .rt 26 .row (tr u.Out) :: [])) (Weak.sim ⟨rfl, rfl, rfl, rfl, rfl, Rf rfl, Rf rfl, Rf rfl, Rf rfl, Rf rfl, Rf rfl, Rf rfl, Rf rfl, ⟨_, rfl, (sc_sim (n := 9) (fun c hc => match c, hc with | 0, _ => T.sim_refl _ | 1, _ => T.sim_refl _ | 2, _ => T.sim_refl _ | 3, _ => T.sim_refl _ | 4, _ => T.sim_refl _ | 5, _ => T.sim_refl _ | 6, _ => T.sim_refl _ | 7, _ => T.sim_refl _ | 8, _ => T.sim_refl _ | c + 9, hc => absurd hc (by omega)))⟩, ⟨rfl, rfl⟩, Rf rfl, ⟨rfl, rfl⟩, ⟨_, rfl, sim_nil⟩, ⟨rfl, rfl⟩, ⟨rfl, rfl⟩, ⟨rfl, rfl⟩, ⟨rfl, rfl⟩, ⟨rfl, rfl⟩, Rf rfl, Rf rfl, Rf rfl, Rf rfl, Rf rfl, trivial⟩ rfl rfl) ?_
  refine AW.loop (fun i : KInv u.Pipes.length => (.sl 46 (.v (iv i.k)) :: .sl 2 (.p 2 [] 9 0 0) :: .sl 3 (.p 3 [] 9 0 0) :: .sl 44 (.h (base + 3) []) :: .sl 45 (.v (iv u.Pipes.length)) :: .rt base .ro (tr u.Progs) :: .rt (base + 1) .ro (tr u.Procs) :: .rt (base + 2) .ro (tr u.Opens) :: .rt (base + 3) .ro (tr u.Pipes) :: .rt (base + 4) .ro (tr u.Files) :: .rt (base + 5) .ro (tr u.Ready) :: .rt (base + 6) .ro (tr u.Out) :: .rt 2 .box (T.s 9 1 fun _ c => [T.v (iv 0), T.v (iv 0), T.s 1 0 fun _ _ => T.j, T.s 10 0 fun _ _ => T.j, T.s 5 0 fun _ _ => T.j, T.s 2 0 fun _ _ => T.j, T.s 2 0 fun _ _ => T.j, T.s 1 0 fun _ _ => T.j, T.s 1 0 fun _ _ => T.j].getD c T.j) :: .rt 3 .box (T.s 9 1 fun _ c => [T.v (iv u.Next), T.v (iv u.Tick), T.j, T.j, T.j, T.j, T.j, T.j, T.j].getD c T.j) :: .al 3 3 (.h 40 []) :: .rt 40 .row (tr u.Procs) :: .al 3 5 (.h 59 []) :: .rt 59 .row (tr (u.Pipes.take i.k)) :: .al 3 2 (.h 14 []) :: .al 3 4 (.h 17 []) :: .al 3 6 (.h 20 []) :: .al 3 7 (.h 23 []) :: .al 3 8 (.h 26 []) :: .rt 14 .row (tr u.Progs) :: .rt 17 .row (tr u.Opens) :: .rt 20 .row (tr u.Files) :: .rt 23 .row (tr u.Ready) :: .rt 26 .row (tr u.Out) :: [])) (fun i => u.Pipes.length - i.k) ⟨0, Nat.zero_le _⟩ ?_
  intro i
  have hle := i.le
  refine sr ?_
  refine qb ?_
  refine nl ?_
  refine AW.seq ?_
  refine cd (fun c2 => ?_) fun c2 => ?_
  ·try simp only [cnd] at c2
   have hik := wt_ge (show i.k < u.Pipes.length by omega)
   have hik2 : Mk.wt (u.Pipes.getD i.k En.dflt) = (u.Pipes.getD i.k En.dflt).Data.length := wt_ints _
   have htl : (u.Pipes.take i.k).length ≤ 1048576 := by rw [List.length_take]; omega
   refine jd (AW.seq (AW.block (sr ?_)))
   refine qq (ix sl27 sz153) ?_
   refine nm ?_
   refine qG ag153 sz153 ?_
   refine sp sA ?_
   refine nm ?_
   refine ss ?_
   refine nl ?_
   refine AW.draw [0, 1, 2, 3, 4, 5, 7, 10] rfl (by decide +kernel) ?_
   refine tk 0 rfl (fA fl31_5) ?_
   refine na ?_
   refine tk 1 rfl (Qt.load1 rfl rfl rfl ag27) ?_
   refine tk 2 rfl (fA fl153_0) ?_
   refine tk 3 rfl (Qt.load1 rfl rfl rfl ag3) ?_
   refine na ?_
   refine tk 4 rfl (fA fl153_1) ?_
   refine tk 5 rfl (Qt.load1 rfl rfl rfl ag29) ?_
   refine a1 6 [0, 1, 2, 3] [5, 4] rfl rfl (Stp.callR rfl (by decide) Tryz.call160 rfl rfl (cloneI_con _ (by omega)) (nodup_of rfl) rfl rfl) ?_
   refine na ?_
   refine na ?_
   refine ae rfl (fA fl31_5) ?_
   refine na ?_
   refine ae rfl (Qt.load1 rfl rfl rfl ag27) ?_
   refine na ?_
   refine ae rfl (fA fl153_0) ?_
   refine na ?_
   refine ae rfl (Qt.load1 rfl rfl rfl ag3) ?_
   refine na ?_
   refine tk 7 rfl (Qt.build rfl) ?_
   refine a1 8 [0, 1] [7, 6, 3, 5, 2, 4] rfl rfl sS ?_
   refine na ?_
   refine na ?_
   refine ae rfl (fA fl31_5) ?_
   refine na ?_
   refine ae rfl (Qt.load1 rfl rfl rfl ag27) ?_
   refine na ?_
   refine AWA.rep 58 (tr [(u.Pipes.getD i.k En.dflt)]) rfl (row1_sim (α := DPipe) (fun c hc => match c, hc with | 0, _ => T.sim_refl _ | 1, _ => T.sim_refl _ | c + 2, hc => absurd hc (by simp only [En.n]; omega))) ?_
   refine na ?_
   refine a1 9 [] [8, 6, 1, 7, 5, 0, 3, 4, 2] rfl rfl (Stp.appendM rfl (by decide) (by decide) rfl rfl rfl (by simp only [List.length_cons, List.length_nil]; omega)) ?_
   refine na ?_
   refine na ?_
   refine AWA.rep 59 (tr (u.Pipes.take (i.k + 1))) rfl (by rw [take_snocG En.dflt (show i.k < u.Pipes.length by omega)]; exact app_sim (l := u.Pipes.take i.k) (l' := [u.Pipes.getD i.k En.dflt]) rfl (fun _ _ _ _ => rfl) (fun _ _ _ _ => rfl)) ?_
   refine na ?_
   refine tk 10 rfl (fA fl31_5) ?_
   refine a1 11 [] [10, 9, 8, 7, 6, 5, 4, 3, 2, 1, 0] rfl rfl (by first | exact Stp.storeA rfl rfl rfl rfl (by decide) rfl | exact Stp.store rfl rfl (by simp) rfl rfl rfl (by decide) rfl) ?_
   refine na ?_
   refine na ?_
   refine nz ?_
   refine AW.region ?_
   refine ba ?_
   refine qm ?_
   refine nl ?_
   refine ⟨⟨i.k + 1, by omega⟩, Weak.sim ⟨st1, rfl, rfl, rfl, rfl, Rf rfl, Rf rfl, Rf rfl, Rf rfl, Rf rfl, Rf rfl, Rf rfl, Rf rfl, ⟨_, rfl, (sc_sim (n := 9) (fun c hc => match c, hc with | 0, _ => T.sim_refl _ | 1, _ => T.sim_refl _ | 2, _ => T.sim_refl _ | 3, _ => T.sim_refl _ | 4, _ => T.sim_refl _ | 5, _ => T.sim_refl _ | 6, _ => T.sim_refl _ | 7, _ => T.sim_refl _ | 8, _ => T.sim_refl _ | c + 9, hc => absurd hc (by omega)))⟩, ⟨rfl, rfl⟩, Rf rfl, ⟨rfl, rfl⟩, Rf rfl, ⟨rfl, rfl⟩, ⟨rfl, rfl⟩, ⟨rfl, rfl⟩, ⟨rfl, rfl⟩, ⟨rfl, rfl⟩, Rf rfl, Rf rfl, Rf rfl, Rf rfl, Rf rfl, trivial⟩ rfl rfl, ?_⟩
   show u.Pipes.length - (i.k + 1) < u.Pipes.length - i.k
   omega
  try simp only [cnd] at c2
  refine AW.exit ?_
  dsimp only [thenQ, blockQ, reduceIte]
  refine sr ?_
  refine qG ag31 sz31 ?_
  refine nm ?_
  refine ss ?_
  refine nl ?_
  refine AW.rep 59 (tr u.Pipes) rfl (by rw [List.take_of_length_le (by omega)]; exact T.sim_refl _) ?_
  refine AW.ret (endQ_ret (.cons (.cellG 2 31 rfl rfl rfl ag31 sz31 (by decide)) .nil) ?_)
  refine ⟨fun i => if i = 0 then 14 else if i = 1 then 40 else if i = 2 then 17 else if i = 3 then 59 else if i = 4 then 20 else if i = 5 then 23 else 26, rfl, nodup_of rfl, ?_⟩
  intro r hr
  simp only [List.mem_cons, List.not_mem_nil, or_false] at hr
  rcases hr with rfl | rfl | rfl | rfl | rfl | rfl | rfl <;> exact ⟨by simp, rootL_mem rfl⟩
end Go.Proofs.YtfbefcmeghpalaaGreat.VM
