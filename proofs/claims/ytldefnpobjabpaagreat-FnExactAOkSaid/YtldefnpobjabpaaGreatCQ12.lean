/- Contracts of functions of the program. No conditions beyond those that each states. -/
import Derived.Test.YtldefnpobjabpaaGreatCQ11
set_option linter.all false
set_option maxHeartbeats 8000000
set_option maxRecDepth 10000
namespace Go.Proofs.YtldefnpobjabpaaGreat.VM
open Go Go.RowKit Go.Proofs
theorem l12Abs_con (a : DArrays) (hS : ShpA a) (hw : Mk.wt a ≤ 1048576) : Con Tryz.prog 34 [.g [.v (iv a.Next), .v (iv a.Tick), .h base [], .h (base + 1) [], .h (base + 2) [], .h (base + 3) [], .h (base + 4) [], .h (base + 5) [], .h (base + 6) [], .v (.bool a.Ready.Used), .h (base + 7) [], .v (iv a.Ready.Head), .v (iv a.Ready.Len), .h (base + 8) []]] [.rt base .ro (tr a.Progs), .rt (base + 1) .ro (tr a.Slots), .rt (base + 2) .ro (tr a.Ram), .rt (base + 3) .ro (tr a.Map), .rt (base + 4) .ro (tr a.Opens), .rt (base + 5) .ro (tr a.Pipes), .rt (base + 6) .ro (tr a.Files), .rt (base + 7) .ro (tr a.Ready.Buf), .rt (base + 8) .ro (tr a.Out)] (Ret (.g [.v (iv (absU a).Next), .v (iv (absU a).Tick), .h 0 [], .h 1 [], .h 2 [], .h 3 [], .h 4 [], .h 5 [], .h 6 []]) [(0, .row, tr (absU a).Progs), (1, .row, tr (absU a).Procs), (2, .row, tr (absU a).Opens), (3, .row, tr (absU a).Pipes), (4, .row, tr (absU a).Files), (5, .row, tr (absU a).Ready), (6, .row, tr (absU a).Out)]) := by
 refine ob Tryz.func34 Tryz.ntmps34 ?_
 refine AW.len (base + 6) [] rfl (by simp [Okp]) rfl (fun hl6 => ?_)
 have hwu : Mk.wt a.Progs + Mk.wt a.Slots + Mk.wt a.Ram + Mk.wt a.Map + Mk.wt a.Opens + Mk.wt a.Pipes + Mk.wt a.Files + Mk.wt a.Ready.Buf + Mk.wt a.Out ≤ 1048576 := hw
 have hw1 := wt_len a.Files
 have hw2 := wt_ints a.Out
 have hs1 := hS.slots
 have hs2 := hS.ram
 have hs3 := hS.opens
 have hs4 := hS.pipes
 have hs5 := hS.files
 refine sr ?_
 refine bx ?_
 refine nm ?_
 refine sp sA ?_
 refine nl ?_
 refine AW.seq ?_
 refine AW.draw [0, 1, 2, 3, 4, 5, 7, 8, 11, 12, 14] rfl (by decide +kernel) ?_
 refine tk 0 rfl (fA fl48_0) ?_
 refine na ?_
 refine tk 1 rfl (Qt.load1 rfl rfl rfl ag3) ?_
 refine tk 2 rfl (fA fl48_1) ?_
 refine tk 3 rfl (Qt.load1 rfl rfl rfl ag3) ?_
 refine na ?_
 refine tk 4 rfl (fA fl48_2) ?_
 refine tk 5 rfl (Qt.load1 rfl rfl rfl ag34) ?_
 refine tk 7 rfl (fA fl48_9) ?_
 refine na ?_
 refine tk 8 rfl (Qt.loadG rfl rfl rfl ag46 sz46 (by decide)) ?_
 refine tk 11 rfl (fA fl48_10) ?_
 refine tk 12 rfl (Qt.load1 rfl rfl rfl ag24) ?_
 refine na ?_
 apply AWA.cutS #[true, true, true, true, true, true, true, true, true, true, true, true, true, true, true, true, false] [0, 1, 2, 3, 14]
 ·intro K1_7
  apply AWA.cutS #[true, true, true, true, true, true, true, true, true, true, true, true, true, false, false, true, false] [0, 1, 2, 3, 11, 12]
  ·intro K1_6
   apply AWA.cutS #[true, true, true, true, true, true, true, true, true, false, true, true, true, false, false, true, false] [0, 1, 2, 3, 7, 8, 11, 12]
   ·intro K1_5
    apply AWA.cutS #[true, true, true, true, true, true, true, true, true, true, false, true, true, false, false, true, false] [0, 1, 2, 3, 11, 12]
    ·intro K1_4
     apply AWA.cutS #[true, true, true, true, true, true, true, true, true, true, true, true, true, false, false, false, false] [0, 1, 2, 3, 11, 12]
     ·intro K1_3
      apply AWA.cutS #[true, true, true, true, true, true, false, true, true, false, true, true, true, false, false, true, false] [0, 1, 2, 3, 4, 5, 7, 8, 11, 12]
      ·intro K1_2
       apply AWA.cutS #[true, true, true, true, true, true, true, true, true, false, false, true, true, false, false, true, false] [0, 1, 2, 3, 7, 8, 11, 12]
       ·intro K1_1
        apply AWA.cutS #[true, true, true, true, true, true, true, true, true, false, true, true, true, false, false, false, false] [0, 1, 2, 3, 7, 8, 11, 12]
        ·intro K1_0
         refine AWA.anyL [6, 10, 15] (by decide +kernel) rfl ⟨?_, ?_, ?_, trivial⟩
         ·refine AWA.arm 6 [0, 1, 2, 3, 7, 8, 11, 12] [5, 4] rfl rfl rfl (by decide +kernel) (by decide +kernel) (by decide +kernel) (Stp.callR rfl (by decide) Tryz.call113 rfl rfl (l6CopyProgs_con _ (by omega)) (nodup_of rfl) rfl rfl) ?_
          refine na ?_
          refine ae rfl (fA fl48_0) ?_
          refine ae rfl (Qt.load1 rfl rfl rfl ag3) ?_
          refine ae rfl (fA fl48_1) ?_
          refine na ?_
          refine ae rfl (Qt.load1 rfl rfl rfl ag3) ?_
          refine ae rfl (fA fl48_9) ?_
          refine ae rfl (Qt.loadG rfl rfl rfl ag46 sz46 (by decide)) ?_
          refine na ?_
          refine ae rfl (fA fl48_10) ?_
          refine ae rfl (Qt.load1 rfl rfl rfl ag24) ?_
          refine na ?_
          refine AWA.anyL [9, 10, 15] (by decide +kernel) rfl ⟨?_, ?_, ?_, trivial⟩
          ·refine AWA.arm 9 [0, 1, 2, 3, 11, 12] [8, 6, 7, 5, 4] rfl rfl rfl (by decide +kernel) (by decide +kernel) (by decide +kernel) (Stp.callR rfl (by decide) Tryz.call114 rfl rfl (l12Go_con a.Ready 6 (by omega) hS.ready) (nodup_of rfl) rfl rfl) ?_
           refine na ?_
           refine ae rfl (fA fl48_0) ?_
           refine ae rfl (Qt.load1 rfl rfl rfl ag3) ?_
           refine ae rfl (fA fl48_1) ?_
           refine na ?_
           refine ae rfl (Qt.load1 rfl rfl rfl ag3) ?_
           refine ae rfl (fA fl48_10) ?_
           refine ae rfl (Qt.load1 rfl rfl rfl ag24) ?_
           refine na ?_
           refine AWA.anyL [10, 15] (by decide +kernel) rfl ⟨?_, ?_, trivial⟩
           ·refine AWA.arm 10 [0, 1, 2, 3, 11, 12] [] rfl rfl rfl (by decide +kernel) (by decide +kernel) (by decide +kernel) sS ?_
            refine na ?_
            refine ae rfl (fA fl48_0) ?_
            refine ae rfl (Qt.load1 rfl rfl rfl ag3) ?_
            refine ae rfl (fA fl48_1) ?_
            refine na ?_
            refine ae rfl (Qt.load1 rfl rfl rfl ag3) ?_
            refine ae rfl (fA fl48_10) ?_
            refine ae rfl (Qt.load1 rfl rfl rfl ag24) ?_
            refine na ?_
            exact AWA.use (by decide +kernel) (by decide +kernel) Weak.refl K1_3
           ·refine AWA.arm 15 [0, 1, 2, 3, 11, 12] [] rfl rfl rfl (by decide +kernel) (by decide +kernel) (by decide +kernel) sA ?_
            refine na ?_
            refine ae rfl (fA fl48_0) ?_
            refine ae rfl (Qt.load1 rfl rfl rfl ag3) ?_
            refine ae rfl (fA fl48_1) ?_
            refine na ?_
            refine ae rfl (Qt.load1 rfl rfl rfl ag3) ?_
            refine ae rfl (fA fl48_10) ?_
            refine ae rfl (Qt.load1 rfl rfl rfl ag24) ?_
            refine na ?_
            exact AWA.use (by decide +kernel) (by decide +kernel) Weak.refl K1_4
          ·refine AWA.arm 10 [0, 1, 2, 3, 7, 8, 11, 12] [] rfl rfl rfl (by decide +kernel) (by decide +kernel) (by decide +kernel) sS ?_
           refine na ?_
           refine ae rfl (fA fl48_0) ?_
           refine ae rfl (Qt.load1 rfl rfl rfl ag3) ?_
           refine ae rfl (fA fl48_1) ?_
           refine na ?_
           refine ae rfl (Qt.load1 rfl rfl rfl ag3) ?_
           refine ae rfl (fA fl48_9) ?_
           refine ae rfl (Qt.loadG rfl rfl rfl ag46 sz46 (by decide)) ?_
           refine na ?_
           refine ae rfl (fA fl48_10) ?_
           refine ae rfl (Qt.load1 rfl rfl rfl ag24) ?_
           refine na ?_
           exact AWA.use (by decide +kernel) (by decide +kernel) Weak.refl K1_0
          ·refine AWA.arm 15 [0, 1, 2, 3, 7, 8, 11, 12] [] rfl rfl rfl (by decide +kernel) (by decide +kernel) (by decide +kernel) sA ?_
           refine na ?_
           refine ae rfl (fA fl48_0) ?_
           refine ae rfl (Qt.load1 rfl rfl rfl ag3) ?_
           refine ae rfl (fA fl48_1) ?_
           refine na ?_
           refine ae rfl (Qt.load1 rfl rfl rfl ag3) ?_
           refine ae rfl (fA fl48_9) ?_
           refine ae rfl (Qt.loadG rfl rfl rfl ag46 sz46 (by decide)) ?_
           refine na ?_
           refine ae rfl (fA fl48_10) ?_
           refine ae rfl (Qt.load1 rfl rfl rfl ag24) ?_
           refine na ?_
           exact AWA.use (by decide +kernel) (by decide +kernel) Weak.refl K1_1
         ·refine AWA.arm 10 [0, 1, 2, 3, 4, 5, 7, 8, 11, 12] [] rfl rfl rfl (by decide +kernel) (by decide +kernel) (by decide +kernel) sS ?_
          refine na ?_
          refine ae rfl (fA fl48_0) ?_
          refine ae rfl (Qt.load1 rfl rfl rfl ag3) ?_
          refine ae rfl (fA fl48_1) ?_
          refine na ?_
          refine ae rfl (Qt.load1 rfl rfl rfl ag3) ?_
          refine ae rfl (fA fl48_2) ?_
          refine ae rfl (Qt.load1 rfl rfl rfl ag34) ?_
          refine na ?_
          refine ae rfl (fA fl48_9) ?_
          refine ae rfl (Qt.loadG rfl rfl rfl ag46 sz46 (by decide)) ?_
          refine ae rfl (fA fl48_10) ?_
          refine na ?_
          refine ae rfl (Qt.load1 rfl rfl rfl ag24) ?_
          refine na ?_
          refine AWA.anyL [6, 15] (by decide +kernel) rfl ⟨?_, ?_, trivial⟩
          ·refine AWA.arm 6 [0, 1, 2, 3, 7, 8, 11, 12] [5, 4] rfl rfl rfl (by decide +kernel) (by decide +kernel) (by decide +kernel) (Stp.callR rfl (by decide) Tryz.call113 rfl rfl (l6CopyProgs_con _ (by omega)) (nodup_of rfl) rfl rfl) ?_
           refine na ?_
           refine ae rfl (fA fl48_0) ?_
           refine ae rfl (Qt.load1 rfl rfl rfl ag3) ?_
           refine ae rfl (fA fl48_1) ?_
           refine na ?_
           refine ae rfl (Qt.load1 rfl rfl rfl ag3) ?_
           refine ae rfl (fA fl48_9) ?_
           refine ae rfl (Qt.loadG rfl rfl rfl ag46 sz46 (by decide)) ?_
           refine na ?_
           refine ae rfl (fA fl48_10) ?_
           refine ae rfl (Qt.load1 rfl rfl rfl ag24) ?_
           refine na ?_
           exact AWA.use (by decide +kernel) (by decide +kernel) (Weak.sim (by repeat (first | exact trivial | refine ⟨rfl, ?_⟩ | refine ⟨⟨_, rfl, T.sim_refl _⟩, ?_⟩ | refine ⟨⟨rfl, rfl⟩, ?_⟩)) rfl rfl) K1_0
          ·refine AWA.arm 15 [0, 1, 2, 3, 4, 5, 7, 8, 11, 12] [] rfl rfl rfl (by decide +kernel) (by decide +kernel) (by decide +kernel) sA ?_
           refine na ?_
           refine ae rfl (fA fl48_0) ?_
           refine ae rfl (Qt.load1 rfl rfl rfl ag3) ?_
           refine ae rfl (fA fl48_1) ?_
           refine na ?_
           refine ae rfl (Qt.load1 rfl rfl rfl ag3) ?_
           refine ae rfl (fA fl48_2) ?_
           refine ae rfl (Qt.load1 rfl rfl rfl ag34) ?_
           refine na ?_
           refine ae rfl (fA fl48_9) ?_
           refine ae rfl (Qt.loadG rfl rfl rfl ag46 sz46 (by decide)) ?_
           refine ae rfl (fA fl48_10) ?_
           refine na ?_
           refine ae rfl (Qt.load1 rfl rfl rfl ag24) ?_
           refine na ?_
           exact AWA.use (by decide +kernel) (by decide +kernel) Weak.refl K1_2
         ·refine AWA.arm 15 [0, 1, 2, 3, 4, 5, 7, 8, 11, 12] [] rfl rfl rfl (by decide +kernel) (by decide +kernel) (by decide +kernel) sA ?_
          refine na ?_
          refine ae rfl (fA fl48_0) ?_
          refine ae rfl (Qt.load1 rfl rfl rfl ag3) ?_
          refine ae rfl (fA fl48_1) ?_
          refine na ?_
          refine ae rfl (Qt.load1 rfl rfl rfl ag3) ?_
          refine ae rfl (fA fl48_2) ?_
          refine ae rfl (Qt.load1 rfl rfl rfl ag34) ?_
          refine na ?_
          refine ae rfl (fA fl48_9) ?_
          refine ae rfl (Qt.loadG rfl rfl rfl ag46 sz46 (by decide)) ?_
          refine ae rfl (fA fl48_10) ?_
          refine na ?_
          refine ae rfl (Qt.load1 rfl rfl rfl ag24) ?_
          refine na ?_
          refine AWA.anyL [6, 10] (by decide +kernel) rfl ⟨?_, ?_, trivial⟩
          ·refine AWA.arm 6 [0, 1, 2, 3, 7, 8, 11, 12] [5, 4] rfl rfl rfl (by decide +kernel) (by decide +kernel) (by decide +kernel) (Stp.callR rfl (by decide) Tryz.call113 rfl rfl (l6CopyProgs_con _ (by omega)) (nodup_of rfl) rfl rfl) ?_
           refine na ?_
           refine ae rfl (fA fl48_0) ?_
           refine ae rfl (Qt.load1 rfl rfl rfl ag3) ?_
           refine ae rfl (fA fl48_1) ?_
           refine na ?_
           refine ae rfl (Qt.load1 rfl rfl rfl ag3) ?_
           refine ae rfl (fA fl48_9) ?_
           refine ae rfl (Qt.loadG rfl rfl rfl ag46 sz46 (by decide)) ?_
           refine na ?_
           refine ae rfl (fA fl48_10) ?_
           refine ae rfl (Qt.load1 rfl rfl rfl ag24) ?_
           refine na ?_
           exact AWA.use (by decide +kernel) (by decide +kernel) (Weak.sim (by repeat (first | exact trivial | refine ⟨rfl, ?_⟩ | refine ⟨⟨_, rfl, T.sim_refl _⟩, ?_⟩ | refine ⟨⟨rfl, rfl⟩, ?_⟩)) rfl rfl) K1_1
          ·refine AWA.arm 10 [0, 1, 2, 3, 4, 5, 7, 8, 11, 12] [] rfl rfl rfl (by decide +kernel) (by decide +kernel) (by decide +kernel) sS ?_
           refine na ?_
           refine ae rfl (fA fl48_0) ?_
           refine ae rfl (Qt.load1 rfl rfl rfl ag3) ?_
           refine ae rfl (fA fl48_1) ?_
           refine na ?_
           refine ae rfl (Qt.load1 rfl rfl rfl ag3) ?_
           refine ae rfl (fA fl48_2) ?_
           refine ae rfl (Qt.load1 rfl rfl rfl ag34) ?_
           refine na ?_
           refine ae rfl (fA fl48_9) ?_
           refine ae rfl (Qt.loadG rfl rfl rfl ag46 sz46 (by decide)) ?_
           refine ae rfl (fA fl48_10) ?_
           refine na ?_
           refine ae rfl (Qt.load1 rfl rfl rfl ag24) ?_
           refine na ?_
           exact AWA.use (by decide +kernel) (by decide +kernel) (Weak.sim (by repeat (first | exact trivial | refine ⟨rfl, ?_⟩ | refine ⟨⟨_, rfl, T.sim_refl _⟩, ?_⟩ | refine ⟨⟨rfl, rfl⟩, ?_⟩)) rfl rfl) K1_2
        ·refine AWA.anyL [9, 15] (by decide +kernel) rfl ⟨?_, ?_, trivial⟩
         ·refine AWA.arm 9 [0, 1, 2, 3, 11, 12] [8, 6, 7, 5, 4] rfl rfl rfl (by decide +kernel) (by decide +kernel) (by decide +kernel) (Stp.callR rfl (by decide) Tryz.call114 rfl rfl (l12Go_con a.Ready 6 (by omega) hS.ready) (nodup_of rfl) rfl rfl) ?_
          refine na ?_
          refine ae rfl (fA fl48_0) ?_
          refine ae rfl (Qt.load1 rfl rfl rfl ag3) ?_
          refine ae rfl (fA fl48_1) ?_
          refine na ?_
          refine ae rfl (Qt.load1 rfl rfl rfl ag3) ?_
          refine ae rfl (fA fl48_10) ?_
          refine ae rfl (Qt.load1 rfl rfl rfl ag24) ?_
          refine na ?_
          exact AWA.use (by decide +kernel) (by decide +kernel) (Weak.sim (by repeat (first | exact trivial | refine ⟨rfl, ?_⟩ | refine ⟨⟨_, rfl, T.sim_refl _⟩, ?_⟩ | refine ⟨⟨rfl, rfl⟩, ?_⟩)) rfl rfl) K1_3
         ·refine AWA.arm 15 [0, 1, 2, 3, 7, 8, 11, 12] [] rfl rfl rfl (by decide +kernel) (by decide +kernel) (by decide +kernel) sA ?_
          refine na ?_
          refine ae rfl (fA fl48_0) ?_
          refine ae rfl (Qt.load1 rfl rfl rfl ag3) ?_
          refine ae rfl (fA fl48_1) ?_
          refine na ?_
          refine ae rfl (Qt.load1 rfl rfl rfl ag3) ?_
          refine ae rfl (fA fl48_9) ?_
          refine ae rfl (Qt.loadG rfl rfl rfl ag46 sz46 (by decide)) ?_
          refine na ?_
          refine ae rfl (fA fl48_10) ?_
          refine ae rfl (Qt.load1 rfl rfl rfl ag24) ?_
          refine na ?_
          exact AWA.use (by decide +kernel) (by decide +kernel) Weak.refl K1_5
       ·refine AWA.anyL [9, 10] (by decide +kernel) rfl ⟨?_, ?_, trivial⟩
        ·refine AWA.arm 9 [0, 1, 2, 3, 11, 12] [8, 6, 7, 5, 4] rfl rfl rfl (by decide +kernel) (by decide +kernel) (by decide +kernel) (Stp.callR rfl (by decide) Tryz.call114 rfl rfl (l12Go_con a.Ready 6 (by omega) hS.ready) (nodup_of rfl) rfl rfl) ?_
         refine na ?_
         refine ae rfl (fA fl48_0) ?_
         refine ae rfl (Qt.load1 rfl rfl rfl ag3) ?_
         refine ae rfl (fA fl48_1) ?_
         refine na ?_
         refine ae rfl (Qt.load1 rfl rfl rfl ag3) ?_
         refine ae rfl (fA fl48_10) ?_
         refine ae rfl (Qt.load1 rfl rfl rfl ag24) ?_
         refine na ?_
         exact AWA.use (by decide +kernel) (by decide +kernel) (Weak.sim (by repeat (first | exact trivial | refine ⟨rfl, ?_⟩ | refine ⟨⟨_, rfl, T.sim_refl _⟩, ?_⟩ | refine ⟨⟨rfl, rfl⟩, ?_⟩)) rfl rfl) K1_4
        ·refine AWA.arm 10 [0, 1, 2, 3, 7, 8, 11, 12] [] rfl rfl rfl (by decide +kernel) (by decide +kernel) (by decide +kernel) sS ?_
         refine na ?_
         refine ae rfl (fA fl48_0) ?_
         refine ae rfl (Qt.load1 rfl rfl rfl ag3) ?_
         refine ae rfl (fA fl48_1) ?_
         refine na ?_
         refine ae rfl (Qt.load1 rfl rfl rfl ag3) ?_
         refine ae rfl (fA fl48_9) ?_
         refine ae rfl (Qt.loadG rfl rfl rfl ag46 sz46 (by decide)) ?_
         refine na ?_
         refine ae rfl (fA fl48_10) ?_
         refine ae rfl (Qt.load1 rfl rfl rfl ag24) ?_
         refine na ?_
         exact AWA.use (by decide +kernel) (by decide +kernel) (Weak.sim (by repeat (first | exact trivial | refine ⟨rfl, ?_⟩ | refine ⟨⟨_, rfl, T.sim_refl _⟩, ?_⟩ | refine ⟨⟨rfl, rfl⟩, ?_⟩)) rfl rfl) K1_5
      ·refine AWA.one 6 [0, 1, 2, 3, 7, 8, 11, 12] [5, 4] (by decide +kernel) rfl rfl rfl (by decide +kernel) (by decide +kernel) (by decide +kernel) (Stp.callR rfl (by decide) Tryz.call113 rfl rfl (l6CopyProgs_con _ (by omega)) (nodup_of rfl) rfl rfl) ?_
       refine na ?_
       refine ae rfl (fA fl48_0) ?_
       refine ae rfl (Qt.load1 rfl rfl rfl ag3) ?_
       refine ae rfl (fA fl48_1) ?_
       refine na ?_
       refine ae rfl (Qt.load1 rfl rfl rfl ag3) ?_
       refine ae rfl (fA fl48_9) ?_
       refine ae rfl (Qt.loadG rfl rfl rfl ag46 sz46 (by decide)) ?_
       refine na ?_
       refine ae rfl (fA fl48_10) ?_
       refine ae rfl (Qt.load1 rfl rfl rfl ag24) ?_
       refine na ?_
       exact AWA.use (by decide +kernel) (by decide +kernel) (Weak.sim (by repeat (first | exact trivial | refine ⟨rfl, ?_⟩ | refine ⟨⟨_, rfl, T.sim_refl _⟩, ?_⟩ | refine ⟨⟨rfl, rfl⟩, ?_⟩)) rfl rfl) K1_5
     ·refine AWA.anyL [13, 15] (by decide +kernel) rfl ⟨?_, ?_, trivial⟩
      ·refine AWA.arm 13 [0, 1, 2, 3] [12, 10, 9, 11, 8, 6, 7, 5, 4] rfl rfl rfl (by decide +kernel) (by decide +kernel) (by decide +kernel) (by first | exact Stp.appendC rfl (by decide) (by decide) rfl rfl (by omega) | exact Stp.appendM rfl (by decide) (by decide) rfl rfl rfl (by omega)) ?_
       refine na ?_
       refine ae rfl (fA fl48_0) ?_
       refine ae rfl (Qt.load1 rfl rfl rfl ag3) ?_
       refine ae rfl (fA fl48_1) ?_
       refine na ?_
       refine ae rfl (Qt.load1 rfl rfl rfl ag3) ?_
       refine na ?_
       refine AWA.rep 22 (tr a.Out) rfl (app_nil (α := Int)) ?_
       refine na ?_
       refine AWA.take 14 rfl rfl rfl (by decide +kernel) (.on rfl rfl (Qt.build rfl)) ?_
       refine AWA.one 15 [0, 1, 2, 3, 14] [] (by decide +kernel) rfl rfl rfl (by decide +kernel) (by decide +kernel) (by decide +kernel) sA ?_
       refine na ?_
       refine ae rfl (fA fl48_0) ?_
       refine ae rfl (Qt.load1 rfl rfl rfl ag3) ?_
       refine ae rfl (fA fl48_1) ?_
       refine na ?_
       refine ae rfl (Qt.load1 rfl rfl rfl ag3) ?_
       refine ae rfl (Qt.build rfl) ?_
       refine na ?_
       exact AWA.use (by decide +kernel) (by decide +kernel) Weak.refl K1_7
      ·refine AWA.arm 15 [0, 1, 2, 3, 11, 12] [] rfl rfl rfl (by decide +kernel) (by decide +kernel) (by decide +kernel) sA ?_
       refine na ?_
       refine ae rfl (fA fl48_0) ?_
       refine ae rfl (Qt.load1 rfl rfl rfl ag3) ?_
       refine ae rfl (fA fl48_1) ?_
       refine na ?_
       refine ae rfl (Qt.load1 rfl rfl rfl ag3) ?_
       refine ae rfl (fA fl48_10) ?_
       refine ae rfl (Qt.load1 rfl rfl rfl ag24) ?_
       refine na ?_
       exact AWA.use (by decide +kernel) (by decide +kernel) Weak.refl K1_6
    ·refine AWA.one 10 [0, 1, 2, 3, 11, 12] [] (by decide +kernel) rfl rfl rfl (by decide +kernel) (by decide +kernel) (by decide +kernel) sS ?_
     refine na ?_
     refine ae rfl (fA fl48_0) ?_
     refine ae rfl (Qt.load1 rfl rfl rfl ag3) ?_
     refine ae rfl (fA fl48_1) ?_
     refine na ?_
     refine ae rfl (Qt.load1 rfl rfl rfl ag3) ?_
     refine ae rfl (fA fl48_10) ?_
     refine ae rfl (Qt.load1 rfl rfl rfl ag24) ?_
     refine na ?_
     exact AWA.use (by decide +kernel) (by decide +kernel) (Weak.sim (by repeat (first | exact trivial | refine ⟨rfl, ?_⟩ | refine ⟨⟨_, rfl, T.sim_refl _⟩, ?_⟩ | refine ⟨⟨rfl, rfl⟩, ?_⟩)) rfl rfl) K1_6
   ·refine AWA.one 9 [0, 1, 2, 3, 11, 12] [8, 6, 7, 5, 4] (by decide +kernel) rfl rfl rfl (by decide +kernel) (by decide +kernel) (by decide +kernel) (Stp.callR rfl (by decide) Tryz.call114 rfl rfl (l12Go_con a.Ready 6 (by omega) hS.ready) (nodup_of rfl) rfl rfl) ?_
    refine na ?_
    refine ae rfl (fA fl48_0) ?_
    refine ae rfl (Qt.load1 rfl rfl rfl ag3) ?_
    refine ae rfl (fA fl48_1) ?_
    refine na ?_
    refine ae rfl (Qt.load1 rfl rfl rfl ag3) ?_
    refine ae rfl (fA fl48_10) ?_
    refine ae rfl (Qt.load1 rfl rfl rfl ag24) ?_
    refine na ?_
    exact AWA.use (by decide +kernel) (by decide +kernel) (Weak.sim (by repeat (first | exact trivial | refine ⟨rfl, ?_⟩ | refine ⟨⟨_, rfl, T.sim_refl _⟩, ?_⟩ | refine ⟨⟨rfl, rfl⟩, ?_⟩)) rfl rfl) K1_6
  ·refine AWA.one 13 [0, 1, 2, 3] [12, 10, 9, 11, 8, 6, 7, 5, 4] (by decide +kernel) rfl rfl rfl (by decide +kernel) (by decide +kernel) (by decide +kernel) (by first | exact Stp.appendC rfl (by decide) (by decide) rfl rfl (by omega) | exact Stp.appendM rfl (by decide) (by decide) rfl rfl rfl (by omega)) ?_
   refine na ?_
   refine ae rfl (fA fl48_0) ?_
   refine ae rfl (Qt.load1 rfl rfl rfl ag3) ?_
   refine ae rfl (fA fl48_1) ?_
   refine na ?_
   refine ae rfl (Qt.load1 rfl rfl rfl ag3) ?_
   refine na ?_
   refine AWA.rep 22 (tr a.Out) rfl (app_nil (α := Int)) ?_
   refine na ?_
   refine AWA.take 14 rfl rfl rfl (by decide +kernel) (.on rfl rfl (Qt.build rfl)) ?_
   refine na ?_
   exact AWA.use (by decide +kernel) (by decide +kernel) (Weak.sim (by repeat (first | exact trivial | refine ⟨rfl, ?_⟩ | refine ⟨⟨_, rfl, T.sim_refl _⟩, ?_⟩ | refine ⟨⟨rfl, rfl⟩, ?_⟩)) rfl rfl) K1_7
 ·refine AWA.one 16 [] [15, 14, 13, 12, 11, 10, 9, 8, 7, 6, 5, 4, 3, 2, 1, 0] (by decide +kernel) rfl rfl rfl (by decide +kernel) (by decide +kernel) (by decide +kernel) (by first | exact Stp.storeA rfl rfl rfl rfl (by decide) rfl | exact Stp.store rfl rfl (by simp) rfl rfl rfl (by decide) rfl) ?_
  refine na ?_
  refine nz ?_
  refine sr2 ?_
  refine qn ?_
  refine AW.block ?_
  refine AW.weak (Weak.hoist 3 3 46 rfl (by decide) rfl rfl rfl) ?_
  refine AW.weak (Weak.hoist 3 4 75 rfl (by decide) rfl rfl rfl) ?_
  refine AW.weak (Weak.hoist 3 5 101 rfl (by decide) rfl rfl rfl) ?_
  refine AW.weak (Weak.hoist 3 6 129 rfl (by decide) rfl rfl rfl) ?_
  refine AW.weak (L' := (.sl 4 (.v (iv (0 : Nat))) :: .sl 2 (.p 2 [] 9 0 0) :: .sl 3 (.p 3 [] 9 0 0) :: .rt 1 .box (T.s 14 1 fun k c => ([(T.v (iv a.Next), none), (T.v (iv a.Tick), none), (T.j, none), (T.j, none), (T.j, none), (T.j, none), (T.j, none), (T.j, none), (T.j, none), (T.v (Value.bool a.Ready.Used), none), (T.j, none), (T.v (iv a.Ready.Head), none), (T.v (iv a.Ready.Len), none), (T.j, none)].getD (k * 14 + c) (T.j, none)).fst) :: .al 1 2 (.h base []) :: .al 1 3 (.h (base + 1) []) :: .al 1 4 (.h (base + 2) []) :: .al 1 5 (.h (base + 3) []) :: .al 1 6 (.h (base + 4) []) :: .al 1 7 (.h (base + 5) []) :: .al 1 8 (.h (base + 6) []) :: .al 1 10 (.h (base + 7) []) :: .al 1 13 (.h (base + 8) []) :: .rt base .ro (tr a.Progs) :: .rt (base + 1) .ro (tr a.Slots) :: .rt (base + 2) .ro (tr a.Ram) :: .rt (base + 3) .ro (tr a.Map) :: .rt (base + 4) .ro (tr a.Opens) :: .rt (base + 5) .ro (tr a.Pipes) :: .rt (base + 6) .ro (tr a.Files) :: .rt (base + 7) .ro (tr a.Ready.Buf) :: .rt (base + 8) .ro (tr a.Out) :: .sl 1 (.p 1 [] 14 0 0) :: .rt 2 .box (T.s 9 1 fun _ c => [T.v (iv 0), T.v (iv 0), T.s 1 0 fun _ _ => T.j, T.s 10 0 fun _ _ => T.j, T.s 5 0 fun _ _ => T.j, T.s 2 0 fun _ _ => T.j, T.s 2 0 fun _ _ => T.j, T.s 1 0 fun _ _ => T.j, T.s 1 0 fun _ _ => T.j].getD c T.j) :: .rt 3 .box (T.s 9 1 fun _ c => [T.v (iv a.Next), T.v (iv a.Tick), T.j, T.j, T.j, T.j, T.j, T.j, T.j].getD c T.j) :: .al 3 2 (.h 15 []) :: .al 3 3 (.h 46 []) :: .al 3 4 (.h 75 []) :: .al 3 5 (.h 101 []) :: .al 3 6 (.h 129 []) :: .al 3 7 (.h 18 []) :: .al 3 8 (.h 22 []) :: .rt 15 .row (tr a.Progs) :: .rt 46 .row (tr (sortK DProc.Pid (procsK a (0 : Nat)))) :: .rt 75 .row (tr (opensK a 0)) :: .rt 101 .row (tr (pipesK a 0)) :: .rt 129 .row (tr (filesK a 0)) :: .rt 18 .row (tr (dataL a.Ready)) :: .rt 22 .row (tr a.Out) :: [])) (Weak.sim ⟨rfl, rfl, rfl, Rf rfl, ⟨rfl, rfl⟩, ⟨rfl, rfl⟩, ⟨rfl, rfl⟩, ⟨rfl, rfl⟩, ⟨rfl, rfl⟩, ⟨rfl, rfl⟩, ⟨rfl, rfl⟩, ⟨rfl, rfl⟩, ⟨rfl, rfl⟩, Rf rfl, Rf rfl, Rf rfl, Rf rfl, Rf rfl, Rf rfl, Rf rfl, Rf rfl, Rf rfl, rfl, ⟨_, rfl, (sc_sim (n := 9) (fun c hc => match c, hc with | 0, _ => T.sim_refl _ | 1, _ => T.sim_refl _ | 2, _ => T.sim_refl _ | 3, _ => T.sim_refl _ | 4, _ => T.sim_refl _ | 5, _ => T.sim_refl _ | 6, _ => T.sim_refl _ | 7, _ => T.sim_refl _ | 8, _ => T.sim_refl _ | c + 9, hc => absurd hc (by omega)))⟩, ⟨_, rfl, (sc_sim (n := 9) (fun c hc => match c, hc with | 0, _ => T.sim_refl _ | 1, _ => T.sim_refl _ | 2, _ => T.sim_refl _ | 3, _ => T.sim_refl _ | 4, _ => T.sim_refl _ | 5, _ => T.sim_refl _ | 6, _ => T.sim_refl _ | 7, _ => T.sim_refl _ | 8, _ => T.sim_refl _ | c + 9, hc => absurd hc (by omega)))⟩, ⟨rfl, rfl⟩, ⟨rfl, rfl⟩, ⟨rfl, rfl⟩, ⟨rfl, rfl⟩, ⟨rfl, rfl⟩, ⟨rfl, rfl⟩, ⟨rfl, rfl⟩, Rf rfl, ⟨_, rfl, sim_nil⟩, ⟨_, rfl, sim_nil⟩, ⟨_, rfl, sim_nil⟩, ⟨_, rfl, sim_nil⟩, Rf rfl, Rf rfl, trivial⟩ rfl rfl) ?_
  refine AW.loop (fun i : KInv a.Slots.length => (.sl 4 (.v (iv i.k)) :: .sl 2 (.p 2 [] 9 0 0) :: .sl 3 (.p 3 [] 9 0 0) :: .rt 1 .box (T.s 14 1 fun k c => ([(T.v (iv a.Next), none), (T.v (iv a.Tick), none), (T.j, none), (T.j, none), (T.j, none), (T.j, none), (T.j, none), (T.j, none), (T.j, none), (T.v (Value.bool a.Ready.Used), none), (T.j, none), (T.v (iv a.Ready.Head), none), (T.v (iv a.Ready.Len), none), (T.j, none)].getD (k * 14 + c) (T.j, none)).fst) :: .al 1 2 (.h base []) :: .al 1 3 (.h (base + 1) []) :: .al 1 4 (.h (base + 2) []) :: .al 1 5 (.h (base + 3) []) :: .al 1 6 (.h (base + 4) []) :: .al 1 7 (.h (base + 5) []) :: .al 1 8 (.h (base + 6) []) :: .al 1 10 (.h (base + 7) []) :: .al 1 13 (.h (base + 8) []) :: .rt base .ro (tr a.Progs) :: .rt (base + 1) .ro (tr a.Slots) :: .rt (base + 2) .ro (tr a.Ram) :: .rt (base + 3) .ro (tr a.Map) :: .rt (base + 4) .ro (tr a.Opens) :: .rt (base + 5) .ro (tr a.Pipes) :: .rt (base + 6) .ro (tr a.Files) :: .rt (base + 7) .ro (tr a.Ready.Buf) :: .rt (base + 8) .ro (tr a.Out) :: .sl 1 (.p 1 [] 14 0 0) :: .rt 2 .box (T.s 9 1 fun _ c => [T.v (iv 0), T.v (iv 0), T.s 1 0 fun _ _ => T.j, T.s 10 0 fun _ _ => T.j, T.s 5 0 fun _ _ => T.j, T.s 2 0 fun _ _ => T.j, T.s 2 0 fun _ _ => T.j, T.s 1 0 fun _ _ => T.j, T.s 1 0 fun _ _ => T.j].getD c T.j) :: .rt 3 .box (T.s 9 1 fun _ c => [T.v (iv a.Next), T.v (iv a.Tick), T.j, T.j, T.j, T.j, T.j, T.j, T.j].getD c T.j) :: .al 3 2 (.h 15 []) :: .al 3 3 (.h 46 []) :: .al 3 4 (.h 75 []) :: .al 3 5 (.h 101 []) :: .al 3 6 (.h 129 []) :: .al 3 7 (.h 18 []) :: .al 3 8 (.h 22 []) :: .rt 15 .row (tr a.Progs) :: .rt 46 .row (tr (sortK DProc.Pid (procsK a i.k))) :: .rt 75 .row (tr (opensK a 0)) :: .rt 101 .row (tr (pipesK a 0)) :: .rt 129 .row (tr (filesK a 0)) :: .rt 18 .row (tr (dataL a.Ready)) :: .rt 22 .row (tr a.Out) :: [])) (fun i => a.Slots.length - i.k) ⟨0, Nat.zero_le _⟩ ?_
  intro i
  have hle := i.le
  have hkl := procsK_le (a := a) i.k
  refine sr2 ?_
  refine qm ?_
  refine qq (fA fl48_3) ?_
  refine nm ?_
  refine ql ag42 ?_
  refine qh sl42 ?_
  refine qb ?_
  refine nc (fun c1 => ?_) fun c1 => ?_
  ·try simp only [cnd] at c1
   refine jd (AW.seq (AW.block (sr ?_)))
   refine qq (fA fl48_3) ?_
   refine nm ?_
   refine ql ag42 ?_
   refine qm ?_
   refine qq (ix sl42 sz87) ?_
   refine nm ?_
   refine qq (fA fl87_0) ?_
   refine ql ag4 ?_
   refine nc (fun c2 => ?_) fun c2 => ?_
   ·have k2 := c2
    try simp only [cnd] at c2
    have hU : (a.Slots.getD i.k En.dflt).Used = true := by first | exact c2 | exact k2 | simpa using k2
    refine AW.draw [0, 1, 2, 3, 4, 5, 6, 7, 10] rfl (by decide +kernel) ?_
    refine tk 0 rfl (fA fl40_3) ?_
    refine na ?_
    refine tk 1 rfl (Qt.load1 rfl rfl rfl ag35) ?_
    refine tk 2 rfl (Qt.loadG rfl rfl rfl ag48 sz48 (by decide)) ?_
    refine tk 3 rfl (fA fl48_3) ?_
    refine na ?_
    refine tk 4 rfl (Qt.load1 rfl rfl rfl ag42) ?_
    refine tk 5 rfl Qt.move ?_
    refine tk 6 rfl (ix sl42 sz87) ?_
    refine na ?_
    refine tk 7 rfl (Qt.loadG rfl rfl rfl ag87 sz87 (by decide)) ?_
    refine a1 8 [0, 1] [7, 2, 6, 5, 4, 3] rfl rfl (Stp.callR rfl (by decide) Tryz.call116 rfl rfl (l12Proc_con a (a.Slots.getD i.k En.dflt) hs2 (by have := hS.slot i.k (by omega); omega) (by have := hS.slot i.k (by omega); omega) (by have := hS.slot i.k (by omega); omega)) (nodup_of rfl) rfl rfl) ?_
    refine na ?_
    refine na ?_
    refine ae rfl (fA fl40_3) ?_
    refine na ?_
    refine ae rfl (Qt.load1 rfl rfl rfl ag35) ?_
    refine na ?_
    refine a1 9 [] [8, 1, 7, 2, 0, 6, 5, 4, 3] rfl rfl (Stp.callH rfl (by decide) Tryz.call115 rfl (l12Sort_con (sortK DProc.Pid (procsK a i.k)) (procP a (a.Slots.getD i.k En.dflt)) (by rw [sortK_len]; omega)) rfl rfl rfl (nodup_of rfl) rfl rfl) ?_
    refine na ?_
    refine na ?_
    refine AWA.rep 46 (tr (sortK DProc.Pid (procsK a (i.k + 1)))) rfl (by rw [procsK_t hU, sortK_snoc]; exact T.sim_refl _) ?_
    refine na ?_
    refine tk 10 rfl (fA fl40_3) ?_
    refine a1 11 [] [10, 9, 8, 7, 6, 5, 4, 3, 2, 1, 0] rfl rfl (by first | exact Stp.storeA rfl rfl rfl rfl (by decide) rfl | exact Stp.store rfl rfl (by simp) rfl rfl rfl (by decide) rfl) ?_
    refine na ?_
    refine na ?_
    refine nz ?_
    refine AW.region ?_
    refine qm ?_
    refine ba ?_
    refine qn ?_
    refine ⟨⟨i.k + 1, by omega⟩, Weak.sim ⟨st1, rfl, rfl, Rf rfl, ⟨rfl, rfl⟩, ⟨rfl, rfl⟩, ⟨rfl, rfl⟩, ⟨rfl, rfl⟩, ⟨rfl, rfl⟩, ⟨rfl, rfl⟩, ⟨rfl, rfl⟩, ⟨rfl, rfl⟩, ⟨rfl, rfl⟩, Rf rfl, Rf rfl, Rf rfl, Rf rfl, Rf rfl, Rf rfl, Rf rfl, Rf rfl, Rf rfl, rfl, Rf rfl, ⟨_, rfl, (sc_sim (n := 9) (fun c hc => match c, hc with | 0, _ => T.sim_refl _ | 1, _ => T.sim_refl _ | 2, _ => T.sim_refl _ | 3, _ => T.sim_refl _ | 4, _ => T.sim_refl _ | 5, _ => T.sim_refl _ | 6, _ => T.sim_refl _ | 7, _ => T.sim_refl _ | 8, _ => T.sim_refl _ | c + 9, hc => absurd hc (by omega)))⟩, ⟨rfl, rfl⟩, ⟨rfl, rfl⟩, ⟨rfl, rfl⟩, ⟨rfl, rfl⟩, ⟨rfl, rfl⟩, ⟨rfl, rfl⟩, ⟨rfl, rfl⟩, Rf rfl, Rf rfl, Rf rfl, Rf rfl, Rf rfl, Rf rfl, Rf rfl, trivial⟩ rfl rfl, ?_⟩
    show a.Slots.length - (i.k + 1) < a.Slots.length - i.k
    omega
   have k2 := c2
   try simp only [cnd] at c2
   have hU : (a.Slots.getD i.k En.dflt).Used = false := by first | exact c2 | exact k2 | simpa using k2
   refine jd (AW.region ?_)
   refine mn ?_
   refine AWL.rep 46 (tr (sortK DProc.Pid (procsK a (i.k + 1)))) rfl (by rw [procsK_f hU]; exact T.sim_refl _) ?_
   refine nm ?_
   refine ba ?_
   refine qn ?_
   refine ⟨⟨i.k + 1, by omega⟩, Weak.sim ⟨st1, rfl, rfl, Rf rfl, ⟨rfl, rfl⟩, ⟨rfl, rfl⟩, ⟨rfl, rfl⟩, ⟨rfl, rfl⟩, ⟨rfl, rfl⟩, ⟨rfl, rfl⟩, ⟨rfl, rfl⟩, ⟨rfl, rfl⟩, ⟨rfl, rfl⟩, Rf rfl, Rf rfl, Rf rfl, Rf rfl, Rf rfl, Rf rfl, Rf rfl, Rf rfl, Rf rfl, rfl, Rf rfl, ⟨_, rfl, (sc_sim (n := 9) (fun c hc => match c, hc with | 0, _ => T.sim_refl _ | 1, _ => T.sim_refl _ | 2, _ => T.sim_refl _ | 3, _ => T.sim_refl _ | 4, _ => T.sim_refl _ | 5, _ => T.sim_refl _ | 6, _ => T.sim_refl _ | 7, _ => T.sim_refl _ | 8, _ => T.sim_refl _ | c + 9, hc => absurd hc (by omega)))⟩, ⟨rfl, rfl⟩, ⟨rfl, rfl⟩, ⟨rfl, rfl⟩, ⟨rfl, rfl⟩, ⟨rfl, rfl⟩, ⟨rfl, rfl⟩, ⟨rfl, rfl⟩, Rf rfl, Rf rfl, Rf rfl, Rf rfl, Rf rfl, Rf rfl, Rf rfl, trivial⟩ rfl rfl, ?_⟩
   show a.Slots.length - (i.k + 1) < a.Slots.length - i.k
   omega
  try simp only [cnd] at c1
  refine AW.exit ?_
  dsimp only [thenQ, blockQ, reduceIte]
  refine sr2 ?_
  refine qn ?_
  refine AW.block ?_
  refine AW.rep 46 (tr (sortK DProc.Pid (procsK a a.Slots.length))) rfl (by rw [show i.k = a.Slots.length by omega]; exact T.sim_refl _) ?_
  refine AW.weak (L' := (.sl 5 (.v (iv (0 : Nat))) :: .sl 2 (.p 2 [] 9 0 0) :: .sl 3 (.p 3 [] 9 0 0) :: .rt 1 .box (T.s 14 1 fun k c => ([(T.v (iv a.Next), none), (T.v (iv a.Tick), none), (T.j, none), (T.j, none), (T.j, none), (T.j, none), (T.j, none), (T.j, none), (T.j, none), (T.v (Value.bool a.Ready.Used), none), (T.j, none), (T.v (iv a.Ready.Head), none), (T.v (iv a.Ready.Len), none), (T.j, none)].getD (k * 14 + c) (T.j, none)).fst) :: .al 1 2 (.h base []) :: .al 1 3 (.h (base + 1) []) :: .al 1 4 (.h (base + 2) []) :: .al 1 5 (.h (base + 3) []) :: .al 1 6 (.h (base + 4) []) :: .al 1 7 (.h (base + 5) []) :: .al 1 8 (.h (base + 6) []) :: .al 1 10 (.h (base + 7) []) :: .al 1 13 (.h (base + 8) []) :: .rt base .ro (tr a.Progs) :: .rt (base + 1) .ro (tr a.Slots) :: .rt (base + 2) .ro (tr a.Ram) :: .rt (base + 3) .ro (tr a.Map) :: .rt (base + 4) .ro (tr a.Opens) :: .rt (base + 5) .ro (tr a.Pipes) :: .rt (base + 6) .ro (tr a.Files) :: .rt (base + 7) .ro (tr a.Ready.Buf) :: .rt (base + 8) .ro (tr a.Out) :: .sl 1 (.p 1 [] 14 0 0) :: .rt 2 .box (T.s 9 1 fun _ c => [T.v (iv 0), T.v (iv 0), T.s 1 0 fun _ _ => T.j, T.s 10 0 fun _ _ => T.j, T.s 5 0 fun _ _ => T.j, T.s 2 0 fun _ _ => T.j, T.s 2 0 fun _ _ => T.j, T.s 1 0 fun _ _ => T.j, T.s 1 0 fun _ _ => T.j].getD c T.j) :: .rt 3 .box (T.s 9 1 fun _ c => [T.v (iv a.Next), T.v (iv a.Tick), T.j, T.j, T.j, T.j, T.j, T.j, T.j].getD c T.j) :: .al 3 2 (.h 15 []) :: .al 3 3 (.h 46 []) :: .al 3 4 (.h 75 []) :: .al 3 5 (.h 101 []) :: .al 3 6 (.h 129 []) :: .al 3 7 (.h 18 []) :: .al 3 8 (.h 22 []) :: .rt 15 .row (tr a.Progs) :: .rt 46 .row (tr (sortK DProc.Pid (procsK a a.Slots.length))) :: .rt 75 .row (tr (opensK a (0 : Nat))) :: .rt 101 .row (tr (pipesK a 0)) :: .rt 129 .row (tr (filesK a 0)) :: .rt 18 .row (tr (dataL a.Ready)) :: .rt 22 .row (tr a.Out) :: [])) (Weak.sim ⟨rfl, rfl, rfl, Rf rfl, ⟨rfl, rfl⟩, ⟨rfl, rfl⟩, ⟨rfl, rfl⟩, ⟨rfl, rfl⟩, ⟨rfl, rfl⟩, ⟨rfl, rfl⟩, ⟨rfl, rfl⟩, ⟨rfl, rfl⟩, ⟨rfl, rfl⟩, Rf rfl, Rf rfl, Rf rfl, Rf rfl, Rf rfl, Rf rfl, Rf rfl, Rf rfl, Rf rfl, rfl, ⟨_, rfl, (sc_sim (n := 9) (fun c hc => match c, hc with | 0, _ => T.sim_refl _ | 1, _ => T.sim_refl _ | 2, _ => T.sim_refl _ | 3, _ => T.sim_refl _ | 4, _ => T.sim_refl _ | 5, _ => T.sim_refl _ | 6, _ => T.sim_refl _ | 7, _ => T.sim_refl _ | 8, _ => T.sim_refl _ | c + 9, hc => absurd hc (by omega)))⟩, ⟨_, rfl, (sc_sim (n := 9) (fun c hc => match c, hc with | 0, _ => T.sim_refl _ | 1, _ => T.sim_refl _ | 2, _ => T.sim_refl _ | 3, _ => T.sim_refl _ | 4, _ => T.sim_refl _ | 5, _ => T.sim_refl _ | 6, _ => T.sim_refl _ | 7, _ => T.sim_refl _ | 8, _ => T.sim_refl _ | c + 9, hc => absurd hc (by omega)))⟩, ⟨rfl, rfl⟩, ⟨rfl, rfl⟩, ⟨rfl, rfl⟩, ⟨rfl, rfl⟩, ⟨rfl, rfl⟩, ⟨rfl, rfl⟩, ⟨rfl, rfl⟩, Rf rfl, Rf rfl, Rf rfl, Rf rfl, Rf rfl, Rf rfl, Rf rfl, trivial⟩ rfl rfl) ?_
  refine AW.loop (fun i : KInv a.Opens.length => (.sl 5 (.v (iv i.k)) :: .sl 2 (.p 2 [] 9 0 0) :: .sl 3 (.p 3 [] 9 0 0) :: .rt 1 .box (T.s 14 1 fun k c => ([(T.v (iv a.Next), none), (T.v (iv a.Tick), none), (T.j, none), (T.j, none), (T.j, none), (T.j, none), (T.j, none), (T.j, none), (T.j, none), (T.v (Value.bool a.Ready.Used), none), (T.j, none), (T.v (iv a.Ready.Head), none), (T.v (iv a.Ready.Len), none), (T.j, none)].getD (k * 14 + c) (T.j, none)).fst) :: .al 1 2 (.h base []) :: .al 1 3 (.h (base + 1) []) :: .al 1 4 (.h (base + 2) []) :: .al 1 5 (.h (base + 3) []) :: .al 1 6 (.h (base + 4) []) :: .al 1 7 (.h (base + 5) []) :: .al 1 8 (.h (base + 6) []) :: .al 1 10 (.h (base + 7) []) :: .al 1 13 (.h (base + 8) []) :: .rt base .ro (tr a.Progs) :: .rt (base + 1) .ro (tr a.Slots) :: .rt (base + 2) .ro (tr a.Ram) :: .rt (base + 3) .ro (tr a.Map) :: .rt (base + 4) .ro (tr a.Opens) :: .rt (base + 5) .ro (tr a.Pipes) :: .rt (base + 6) .ro (tr a.Files) :: .rt (base + 7) .ro (tr a.Ready.Buf) :: .rt (base + 8) .ro (tr a.Out) :: .sl 1 (.p 1 [] 14 0 0) :: .rt 2 .box (T.s 9 1 fun _ c => [T.v (iv 0), T.v (iv 0), T.s 1 0 fun _ _ => T.j, T.s 10 0 fun _ _ => T.j, T.s 5 0 fun _ _ => T.j, T.s 2 0 fun _ _ => T.j, T.s 2 0 fun _ _ => T.j, T.s 1 0 fun _ _ => T.j, T.s 1 0 fun _ _ => T.j].getD c T.j) :: .rt 3 .box (T.s 9 1 fun _ c => [T.v (iv a.Next), T.v (iv a.Tick), T.j, T.j, T.j, T.j, T.j, T.j, T.j].getD c T.j) :: .al 3 2 (.h 15 []) :: .al 3 3 (.h 46 []) :: .al 3 4 (.h 75 []) :: .al 3 5 (.h 101 []) :: .al 3 6 (.h 129 []) :: .al 3 7 (.h 18 []) :: .al 3 8 (.h 22 []) :: .rt 15 .row (tr a.Progs) :: .rt 46 .row (tr (sortK DProc.Pid (procsK a a.Slots.length))) :: .rt 75 .row (tr (opensK a i.k)) :: .rt 101 .row (tr (pipesK a 0)) :: .rt 129 .row (tr (filesK a 0)) :: .rt 18 .row (tr (dataL a.Ready)) :: .rt 22 .row (tr a.Out) :: [])) (fun i => a.Opens.length - i.k) ⟨0, Nat.zero_le _⟩ ?_
  intro i
  have hle := i.le
  have hkl := opensK_le (a := a) i.k
  refine sr2 ?_
  refine mn ?_
  refine qq (fA fl48_6) ?_
  refine ql ag43 ?_
  refine qh sl43 ?_
  refine nm ?_
  refine qb ?_
  refine nc (fun c3 => ?_) fun c3 => ?_
  ·try simp only [cnd] at c3
   refine jd (AW.seq (AW.block (sr ?_)))
   refine qq (fA fl48_6) ?_
   refine ql ag43 ?_
   refine nm ?_
   refine qm ?_
   refine qq (ix sl43 sz96) ?_
   refine qG ag96 sz96 ?_
   refine nm ?_
   refine sp sA ?_
   refine nm ?_
   refine ss ?_
   refine ns ?_
   refine qq (fA fl96_0) ?_
   refine nm ?_
   refine ql ag4 ?_
   refine nc (fun c4 => ?_) fun c4 => ?_
   ·have k4 := c4
    try simp only [cnd] at c4
    have hU : (a.Opens.getD i.k En.dflt).Used = true := by first | exact c4 | exact k4 | simpa using k4
    refine AW.region ?_
    refine qq (fA fl40_4) ?_
    refine ql ag36 ?_
    refine nm ?_
    refine qm ?_
    refine qq (fA fl96_1) ?_
    refine ql ag3 ?_
    refine nm ?_
    refine qq (fA fl96_2) ?_
    refine ql ag3 ?_
    refine qq (fA fl96_3) ?_
    refine nm ?_
    refine ql ag3 ?_
    refine qq (fA fl96_4) ?_
    refine ql ag3 ?_
    refine nm ?_
    refine qq (Qt.build rfl) ?_
    refine sp sS ?_
    refine nm ?_
    refine AWL.rep 74 (tr [(openP i.k (a.Opens.getD i.k En.dflt))]) rfl (row1_sim (α := DOpen) (fun c hc => match c, hc with | 0, _ => T.sim_refl _ | 1, _ => T.sim_refl _ | 2, _ => T.sim_refl _ | 3, _ => T.sim_refl _ | 4, _ => T.sim_refl _ | c + 5, hc => absurd hc (by simp only [En.n]; omega))) ?_
    refine nm ?_
    refine sp (Stp.appendM rfl (by decide) (by decide) rfl rfl rfl (by simp only [List.length_cons, List.length_nil, List.length_append]; omega)) ?_
    refine nm ?_
    refine AWL.rep 75 (tr (opensK a (i.k + 1))) rfl (by rw [opensK_t hU]; exact app_sim (l := opensK a i.k) (l' := [openP i.k (a.Opens.getD i.k En.dflt)]) rfl (fun _ _ _ _ => rfl) (fun _ _ _ _ => rfl)) ?_
    refine nm ?_
    refine qq (fA fl40_4) ?_
    refine ss ?_
    refine nl ?_
    refine AW.region ?_
    refine mn ?_
    refine ba ?_
    refine qn ?_
    refine ⟨⟨i.k + 1, by omega⟩, Weak.sim ⟨st1, rfl, rfl, Rf rfl, ⟨rfl, rfl⟩, ⟨rfl, rfl⟩, ⟨rfl, rfl⟩, ⟨rfl, rfl⟩, ⟨rfl, rfl⟩, ⟨rfl, rfl⟩, ⟨rfl, rfl⟩, ⟨rfl, rfl⟩, ⟨rfl, rfl⟩, Rf rfl, Rf rfl, Rf rfl, Rf rfl, Rf rfl, Rf rfl, Rf rfl, Rf rfl, Rf rfl, rfl, Rf rfl, ⟨_, rfl, (sc_sim (n := 9) (fun c hc => match c, hc with | 0, _ => T.sim_refl _ | 1, _ => T.sim_refl _ | 2, _ => T.sim_refl _ | 3, _ => T.sim_refl _ | 4, _ => T.sim_refl _ | 5, _ => T.sim_refl _ | 6, _ => T.sim_refl _ | 7, _ => T.sim_refl _ | 8, _ => T.sim_refl _ | c + 9, hc => absurd hc (by omega)))⟩, ⟨rfl, rfl⟩, ⟨rfl, rfl⟩, ⟨rfl, rfl⟩, ⟨rfl, rfl⟩, ⟨rfl, rfl⟩, ⟨rfl, rfl⟩, ⟨rfl, rfl⟩, Rf rfl, Rf rfl, Rf rfl, Rf rfl, Rf rfl, Rf rfl, Rf rfl, trivial⟩ rfl rfl, ?_⟩
    show a.Opens.length - (i.k + 1) < a.Opens.length - i.k
    omega
   have k4 := c4
   try simp only [cnd] at c4
   have hU : (a.Opens.getD i.k En.dflt).Used = false := by first | exact c4 | exact k4 | simpa using k4
   refine jd (AW.region ?_)
   refine mn ?_
   refine AWL.rep 75 (tr (opensK a (i.k + 1))) rfl (by rw [opensK_f hU]; exact T.sim_refl _) ?_
   refine nm ?_
   refine ba ?_
   refine qn ?_
   refine ⟨⟨i.k + 1, by omega⟩, Weak.sim ⟨st1, rfl, rfl, Rf rfl, ⟨rfl, rfl⟩, ⟨rfl, rfl⟩, ⟨rfl, rfl⟩, ⟨rfl, rfl⟩, ⟨rfl, rfl⟩, ⟨rfl, rfl⟩, ⟨rfl, rfl⟩, ⟨rfl, rfl⟩, ⟨rfl, rfl⟩, Rf rfl, Rf rfl, Rf rfl, Rf rfl, Rf rfl, Rf rfl, Rf rfl, Rf rfl, Rf rfl, rfl, Rf rfl, ⟨_, rfl, (sc_sim (n := 9) (fun c hc => match c, hc with | 0, _ => T.sim_refl _ | 1, _ => T.sim_refl _ | 2, _ => T.sim_refl _ | 3, _ => T.sim_refl _ | 4, _ => T.sim_refl _ | 5, _ => T.sim_refl _ | 6, _ => T.sim_refl _ | 7, _ => T.sim_refl _ | 8, _ => T.sim_refl _ | c + 9, hc => absurd hc (by omega)))⟩, ⟨rfl, rfl⟩, ⟨rfl, rfl⟩, ⟨rfl, rfl⟩, ⟨rfl, rfl⟩, ⟨rfl, rfl⟩, ⟨rfl, rfl⟩, ⟨rfl, rfl⟩, Rf rfl, Rf rfl, Rf rfl, Rf rfl, Rf rfl, Rf rfl, Rf rfl, trivial⟩ rfl rfl, ?_⟩
   show a.Opens.length - (i.k + 1) < a.Opens.length - i.k
   omega
  try simp only [cnd] at c3
  refine AW.exit ?_
  dsimp only [thenQ, blockQ, reduceIte]
  refine sr2 ?_
  refine qn ?_
  refine AW.block ?_
  refine AW.rep 75 (tr (opensK a a.Opens.length)) rfl (by rw [show i.k = a.Opens.length by omega]; exact T.sim_refl _) ?_
  refine AW.weak (L' := (.sl 7 (.v (iv (0 : Nat))) :: .sl 2 (.p 2 [] 9 0 0) :: .sl 3 (.p 3 [] 9 0 0) :: .rt 1 .box (T.s 14 1 fun k c => ([(T.v (iv a.Next), none), (T.v (iv a.Tick), none), (T.j, none), (T.j, none), (T.j, none), (T.j, none), (T.j, none), (T.j, none), (T.j, none), (T.v (Value.bool a.Ready.Used), none), (T.j, none), (T.v (iv a.Ready.Head), none), (T.v (iv a.Ready.Len), none), (T.j, none)].getD (k * 14 + c) (T.j, none)).fst) :: .al 1 2 (.h base []) :: .al 1 3 (.h (base + 1) []) :: .al 1 4 (.h (base + 2) []) :: .al 1 5 (.h (base + 3) []) :: .al 1 6 (.h (base + 4) []) :: .al 1 7 (.h (base + 5) []) :: .al 1 8 (.h (base + 6) []) :: .al 1 10 (.h (base + 7) []) :: .al 1 13 (.h (base + 8) []) :: .rt base .ro (tr a.Progs) :: .rt (base + 1) .ro (tr a.Slots) :: .rt (base + 2) .ro (tr a.Ram) :: .rt (base + 3) .ro (tr a.Map) :: .rt (base + 4) .ro (tr a.Opens) :: .rt (base + 5) .ro (tr a.Pipes) :: .rt (base + 6) .ro (tr a.Files) :: .rt (base + 7) .ro (tr a.Ready.Buf) :: .rt (base + 8) .ro (tr a.Out) :: .sl 1 (.p 1 [] 14 0 0) :: .rt 2 .box (T.s 9 1 fun _ c => [T.v (iv 0), T.v (iv 0), T.s 1 0 fun _ _ => T.j, T.s 10 0 fun _ _ => T.j, T.s 5 0 fun _ _ => T.j, T.s 2 0 fun _ _ => T.j, T.s 2 0 fun _ _ => T.j, T.s 1 0 fun _ _ => T.j, T.s 1 0 fun _ _ => T.j].getD c T.j) :: .rt 3 .box (T.s 9 1 fun _ c => [T.v (iv a.Next), T.v (iv a.Tick), T.j, T.j, T.j, T.j, T.j, T.j, T.j].getD c T.j) :: .al 3 2 (.h 15 []) :: .al 3 3 (.h 46 []) :: .al 3 4 (.h 75 []) :: .al 3 5 (.h 101 []) :: .al 3 6 (.h 129 []) :: .al 3 7 (.h 18 []) :: .al 3 8 (.h 22 []) :: .rt 15 .row (tr a.Progs) :: .rt 46 .row (tr (sortK DProc.Pid (procsK a a.Slots.length))) :: .rt 75 .row (tr (opensK a a.Opens.length)) :: .rt 101 .row (tr (pipesK a (0 : Nat))) :: .rt 129 .row (tr (filesK a 0)) :: .rt 18 .row (tr (dataL a.Ready)) :: .rt 22 .row (tr a.Out) :: [])) (Weak.sim ⟨rfl, rfl, rfl, Rf rfl, ⟨rfl, rfl⟩, ⟨rfl, rfl⟩, ⟨rfl, rfl⟩, ⟨rfl, rfl⟩, ⟨rfl, rfl⟩, ⟨rfl, rfl⟩, ⟨rfl, rfl⟩, ⟨rfl, rfl⟩, ⟨rfl, rfl⟩, Rf rfl, Rf rfl, Rf rfl, Rf rfl, Rf rfl, Rf rfl, Rf rfl, Rf rfl, Rf rfl, rfl, ⟨_, rfl, (sc_sim (n := 9) (fun c hc => match c, hc with | 0, _ => T.sim_refl _ | 1, _ => T.sim_refl _ | 2, _ => T.sim_refl _ | 3, _ => T.sim_refl _ | 4, _ => T.sim_refl _ | 5, _ => T.sim_refl _ | 6, _ => T.sim_refl _ | 7, _ => T.sim_refl _ | 8, _ => T.sim_refl _ | c + 9, hc => absurd hc (by omega)))⟩, ⟨_, rfl, (sc_sim (n := 9) (fun c hc => match c, hc with | 0, _ => T.sim_refl _ | 1, _ => T.sim_refl _ | 2, _ => T.sim_refl _ | 3, _ => T.sim_refl _ | 4, _ => T.sim_refl _ | 5, _ => T.sim_refl _ | 6, _ => T.sim_refl _ | 7, _ => T.sim_refl _ | 8, _ => T.sim_refl _ | c + 9, hc => absurd hc (by omega)))⟩, ⟨rfl, rfl⟩, ⟨rfl, rfl⟩, ⟨rfl, rfl⟩, ⟨rfl, rfl⟩, ⟨rfl, rfl⟩, ⟨rfl, rfl⟩, ⟨rfl, rfl⟩, Rf rfl, Rf rfl, Rf rfl, Rf rfl, Rf rfl, Rf rfl, Rf rfl, trivial⟩ rfl rfl) ?_
  refine AW.loop (fun i : KInv a.Pipes.length => (.sl 7 (.v (iv i.k)) :: .sl 2 (.p 2 [] 9 0 0) :: .sl 3 (.p 3 [] 9 0 0) :: .rt 1 .box (T.s 14 1 fun k c => ([(T.v (iv a.Next), none), (T.v (iv a.Tick), none), (T.j, none), (T.j, none), (T.j, none), (T.j, none), (T.j, none), (T.j, none), (T.j, none), (T.v (Value.bool a.Ready.Used), none), (T.j, none), (T.v (iv a.Ready.Head), none), (T.v (iv a.Ready.Len), none), (T.j, none)].getD (k * 14 + c) (T.j, none)).fst) :: .al 1 2 (.h base []) :: .al 1 3 (.h (base + 1) []) :: .al 1 4 (.h (base + 2) []) :: .al 1 5 (.h (base + 3) []) :: .al 1 6 (.h (base + 4) []) :: .al 1 7 (.h (base + 5) []) :: .al 1 8 (.h (base + 6) []) :: .al 1 10 (.h (base + 7) []) :: .al 1 13 (.h (base + 8) []) :: .rt base .ro (tr a.Progs) :: .rt (base + 1) .ro (tr a.Slots) :: .rt (base + 2) .ro (tr a.Ram) :: .rt (base + 3) .ro (tr a.Map) :: .rt (base + 4) .ro (tr a.Opens) :: .rt (base + 5) .ro (tr a.Pipes) :: .rt (base + 6) .ro (tr a.Files) :: .rt (base + 7) .ro (tr a.Ready.Buf) :: .rt (base + 8) .ro (tr a.Out) :: .sl 1 (.p 1 [] 14 0 0) :: .rt 2 .box (T.s 9 1 fun _ c => [T.v (iv 0), T.v (iv 0), T.s 1 0 fun _ _ => T.j, T.s 10 0 fun _ _ => T.j, T.s 5 0 fun _ _ => T.j, T.s 2 0 fun _ _ => T.j, T.s 2 0 fun _ _ => T.j, T.s 1 0 fun _ _ => T.j, T.s 1 0 fun _ _ => T.j].getD c T.j) :: .rt 3 .box (T.s 9 1 fun _ c => [T.v (iv a.Next), T.v (iv a.Tick), T.j, T.j, T.j, T.j, T.j, T.j, T.j].getD c T.j) :: .al 3 2 (.h 15 []) :: .al 3 3 (.h 46 []) :: .al 3 4 (.h 75 []) :: .al 3 5 (.h 101 []) :: .al 3 6 (.h 129 []) :: .al 3 7 (.h 18 []) :: .al 3 8 (.h 22 []) :: .rt 15 .row (tr a.Progs) :: .rt 46 .row (tr (sortK DProc.Pid (procsK a a.Slots.length))) :: .rt 75 .row (tr (opensK a a.Opens.length)) :: .rt 101 .row (tr (pipesK a i.k)) :: .rt 129 .row (tr (filesK a 0)) :: .rt 18 .row (tr (dataL a.Ready)) :: .rt 22 .row (tr a.Out) :: [])) (fun i => a.Pipes.length - i.k) ⟨0, Nat.zero_le _⟩ ?_
  intro i
  have hle := i.le
  have hkl := pipesK_le (a := a) i.k
  refine sr2 ?_
  refine mn ?_
  refine qq (fA fl48_7) ?_
  refine ql ag44 ?_
  refine qh sl44 ?_
  refine nm ?_
  refine qb ?_
  refine nc (fun c5 => ?_) fun c5 => ?_
  ·try simp only [cnd] at c5
   refine jd (AW.seq (AW.block (sr ?_)))
   refine qq (fA fl48_7) ?_
   refine ql ag44 ?_
   refine nm ?_
   refine qm ?_
   refine qq (ix sl44 sz46) ?_
   refine qq (fA fl46_0) ?_
   refine nm ?_
   refine ql ag4 ?_
   refine nc (fun c6 => ?_) fun c6 => ?_
   ·have k6 := c6
    try simp only [cnd] at c6
    have hU : (a.Pipes.getD i.k En.dflt).Used = true := by first | exact c6 | exact k6 | simpa using k6
    refine AW.draw [0, 1, 2, 3, 4, 5, 6, 7, 9, 12] rfl (by decide +kernel) ?_
    refine tk 0 rfl (fA fl40_5) ?_
    refine tk 1 rfl (Qt.load1 rfl rfl rfl ag37) ?_
    refine na ?_
    refine tk 2 rfl Qt.move ?_
    refine tk 3 rfl (fA fl48_7) ?_
    refine tk 4 rfl (Qt.load1 rfl rfl rfl ag44) ?_
    refine na ?_
    refine tk 5 rfl Qt.move ?_
    refine tk 6 rfl (ix sl44 sz46) ?_
    refine tk 7 rfl (Qt.loadG rfl rfl rfl ag46 sz46 (by decide)) ?_
    refine na ?_
    refine a1 8 [0, 1, 2] [7, 6, 5, 4, 3] rfl rfl (Stp.callR rfl (by decide) Tryz.call114 rfl rfl (l12Go_con (a.Pipes.getD i.k En.dflt) 4 (by omega) (hS.pipe i.k (by omega))) (nodup_of rfl) rfl rfl) ?_
    refine na ?_
    refine na ?_
    refine ae rfl (fA fl40_5) ?_
    refine na ?_
    refine ae rfl (Qt.load1 rfl rfl rfl ag37) ?_
    refine na ?_
    refine ae rfl Qt.move ?_
    refine na ?_
    refine tk 9 rfl (Qt.build rfl) ?_
    refine a1 10 [0, 1] [9, 8, 2, 7, 6, 5, 4, 3] rfl rfl sS ?_
    refine na ?_
    refine na ?_
    refine ae rfl (fA fl40_5) ?_
    refine na ?_
    refine ae rfl (Qt.load1 rfl rfl rfl ag37) ?_
    refine na ?_
    refine AWA.rep 100 (tr [(pipeP i.k (a.Pipes.getD i.k En.dflt))]) rfl (row1_sim (α := DPipe) (fun c hc => match c, hc with | 0, _ => T.sim_refl _ | 1, _ => T.sim_refl _ | c + 2, hc => absurd hc (by simp only [En.n]; omega))) ?_
    refine na ?_
    refine a1 11 [] [10, 8, 1, 9, 7, 0, 2, 6, 5, 4, 3] rfl rfl (Stp.appendM rfl (by decide) (by decide) rfl rfl rfl (by simp only [List.length_cons, List.length_nil, List.length_append]; omega)) ?_
    refine na ?_
    refine na ?_
    refine AWA.rep 101 (tr (pipesK a (i.k + 1))) rfl (by rw [pipesK_t hU]; exact app_sim (l := pipesK a i.k) (l' := [pipeP i.k (a.Pipes.getD i.k En.dflt)]) rfl (fun _ _ _ _ => rfl) (fun _ _ _ _ => rfl)) ?_
    refine na ?_
    refine tk 12 rfl (fA fl40_5) ?_
    refine a1 13 [] [12, 11, 10, 9, 8, 7, 6, 5, 4, 3, 2, 1, 0] rfl rfl (by first | exact Stp.storeA rfl rfl rfl rfl (by decide) rfl | exact Stp.store rfl rfl (by simp) rfl rfl rfl (by decide) rfl) ?_
    refine na ?_
    refine na ?_
    refine nz ?_
    refine AW.region ?_
    refine qm ?_
    refine ba ?_
    refine qn ?_
    refine ⟨⟨i.k + 1, by omega⟩, Weak.sim ⟨st1, rfl, rfl, Rf rfl, ⟨rfl, rfl⟩, ⟨rfl, rfl⟩, ⟨rfl, rfl⟩, ⟨rfl, rfl⟩, ⟨rfl, rfl⟩, ⟨rfl, rfl⟩, ⟨rfl, rfl⟩, ⟨rfl, rfl⟩, ⟨rfl, rfl⟩, Rf rfl, Rf rfl, Rf rfl, Rf rfl, Rf rfl, Rf rfl, Rf rfl, Rf rfl, Rf rfl, rfl, Rf rfl, ⟨_, rfl, (sc_sim (n := 9) (fun c hc => match c, hc with | 0, _ => T.sim_refl _ | 1, _ => T.sim_refl _ | 2, _ => T.sim_refl _ | 3, _ => T.sim_refl _ | 4, _ => T.sim_refl _ | 5, _ => T.sim_refl _ | 6, _ => T.sim_refl _ | 7, _ => T.sim_refl _ | 8, _ => T.sim_refl _ | c + 9, hc => absurd hc (by omega)))⟩, ⟨rfl, rfl⟩, ⟨rfl, rfl⟩, ⟨rfl, rfl⟩, ⟨rfl, rfl⟩, ⟨rfl, rfl⟩, ⟨rfl, rfl⟩, ⟨rfl, rfl⟩, Rf rfl, Rf rfl, Rf rfl, Rf rfl, Rf rfl, Rf rfl, Rf rfl, trivial⟩ rfl rfl, ?_⟩
    show a.Pipes.length - (i.k + 1) < a.Pipes.length - i.k
    omega
   have k6 := c6
   try simp only [cnd] at c6
   have hU : (a.Pipes.getD i.k En.dflt).Used = false := by first | exact c6 | exact k6 | simpa using k6
   refine jd (AW.region ?_)
   refine mn ?_
   refine AWL.rep 101 (tr (pipesK a (i.k + 1))) rfl (by rw [pipesK_f hU]; exact T.sim_refl _) ?_
   refine nm ?_
   refine ba ?_
   refine qn ?_
   refine ⟨⟨i.k + 1, by omega⟩, Weak.sim ⟨st1, rfl, rfl, Rf rfl, ⟨rfl, rfl⟩, ⟨rfl, rfl⟩, ⟨rfl, rfl⟩, ⟨rfl, rfl⟩, ⟨rfl, rfl⟩, ⟨rfl, rfl⟩, ⟨rfl, rfl⟩, ⟨rfl, rfl⟩, ⟨rfl, rfl⟩, Rf rfl, Rf rfl, Rf rfl, Rf rfl, Rf rfl, Rf rfl, Rf rfl, Rf rfl, Rf rfl, rfl, Rf rfl, ⟨_, rfl, (sc_sim (n := 9) (fun c hc => match c, hc with | 0, _ => T.sim_refl _ | 1, _ => T.sim_refl _ | 2, _ => T.sim_refl _ | 3, _ => T.sim_refl _ | 4, _ => T.sim_refl _ | 5, _ => T.sim_refl _ | 6, _ => T.sim_refl _ | 7, _ => T.sim_refl _ | 8, _ => T.sim_refl _ | c + 9, hc => absurd hc (by omega)))⟩, ⟨rfl, rfl⟩, ⟨rfl, rfl⟩, ⟨rfl, rfl⟩, ⟨rfl, rfl⟩, ⟨rfl, rfl⟩, ⟨rfl, rfl⟩, ⟨rfl, rfl⟩, Rf rfl, Rf rfl, Rf rfl, Rf rfl, Rf rfl, Rf rfl, Rf rfl, trivial⟩ rfl rfl, ?_⟩
   show a.Pipes.length - (i.k + 1) < a.Pipes.length - i.k
   omega
  try simp only [cnd] at c5
  refine AW.exit ?_
  dsimp only [thenQ, blockQ, reduceIte]
  refine sr2 ?_
  refine qn ?_
  refine AW.block ?_
  refine AW.rep 101 (tr (pipesK a a.Pipes.length)) rfl (by rw [show i.k = a.Pipes.length by omega]; exact T.sim_refl _) ?_
  refine AW.weak (L' := (.sl 8 (.v (iv (0 : Nat))) :: .sl 2 (.p 2 [] 9 0 0) :: .sl 3 (.p 3 [] 9 0 0) :: .rt 1 .box (T.s 14 1 fun k c => ([(T.v (iv a.Next), none), (T.v (iv a.Tick), none), (T.j, none), (T.j, none), (T.j, none), (T.j, none), (T.j, none), (T.j, none), (T.j, none), (T.v (Value.bool a.Ready.Used), none), (T.j, none), (T.v (iv a.Ready.Head), none), (T.v (iv a.Ready.Len), none), (T.j, none)].getD (k * 14 + c) (T.j, none)).fst) :: .al 1 2 (.h base []) :: .al 1 3 (.h (base + 1) []) :: .al 1 4 (.h (base + 2) []) :: .al 1 5 (.h (base + 3) []) :: .al 1 6 (.h (base + 4) []) :: .al 1 7 (.h (base + 5) []) :: .al 1 8 (.h (base + 6) []) :: .al 1 10 (.h (base + 7) []) :: .al 1 13 (.h (base + 8) []) :: .rt base .ro (tr a.Progs) :: .rt (base + 1) .ro (tr a.Slots) :: .rt (base + 2) .ro (tr a.Ram) :: .rt (base + 3) .ro (tr a.Map) :: .rt (base + 4) .ro (tr a.Opens) :: .rt (base + 5) .ro (tr a.Pipes) :: .rt (base + 6) .ro (tr a.Files) :: .rt (base + 7) .ro (tr a.Ready.Buf) :: .rt (base + 8) .ro (tr a.Out) :: .sl 1 (.p 1 [] 14 0 0) :: .rt 2 .box (T.s 9 1 fun _ c => [T.v (iv 0), T.v (iv 0), T.s 1 0 fun _ _ => T.j, T.s 10 0 fun _ _ => T.j, T.s 5 0 fun _ _ => T.j, T.s 2 0 fun _ _ => T.j, T.s 2 0 fun _ _ => T.j, T.s 1 0 fun _ _ => T.j, T.s 1 0 fun _ _ => T.j].getD c T.j) :: .rt 3 .box (T.s 9 1 fun _ c => [T.v (iv a.Next), T.v (iv a.Tick), T.j, T.j, T.j, T.j, T.j, T.j, T.j].getD c T.j) :: .al 3 2 (.h 15 []) :: .al 3 3 (.h 46 []) :: .al 3 4 (.h 75 []) :: .al 3 5 (.h 101 []) :: .al 3 6 (.h 129 []) :: .al 3 7 (.h 18 []) :: .al 3 8 (.h 22 []) :: .rt 15 .row (tr a.Progs) :: .rt 46 .row (tr (sortK DProc.Pid (procsK a a.Slots.length))) :: .rt 75 .row (tr (opensK a a.Opens.length)) :: .rt 101 .row (tr (pipesK a a.Pipes.length)) :: .rt 129 .row (tr (filesK a (0 : Nat))) :: .rt 18 .row (tr (dataL a.Ready)) :: .rt 22 .row (tr a.Out) :: [])) (Weak.sim ⟨rfl, rfl, rfl, Rf rfl, ⟨rfl, rfl⟩, ⟨rfl, rfl⟩, ⟨rfl, rfl⟩, ⟨rfl, rfl⟩, ⟨rfl, rfl⟩, ⟨rfl, rfl⟩, ⟨rfl, rfl⟩, ⟨rfl, rfl⟩, ⟨rfl, rfl⟩, Rf rfl, Rf rfl, Rf rfl, Rf rfl, Rf rfl, Rf rfl, Rf rfl, Rf rfl, Rf rfl, rfl, ⟨_, rfl, (sc_sim (n := 9) (fun c hc => match c, hc with | 0, _ => T.sim_refl _ | 1, _ => T.sim_refl _ | 2, _ => T.sim_refl _ | 3, _ => T.sim_refl _ | 4, _ => T.sim_refl _ | 5, _ => T.sim_refl _ | 6, _ => T.sim_refl _ | 7, _ => T.sim_refl _ | 8, _ => T.sim_refl _ | c + 9, hc => absurd hc (by omega)))⟩, ⟨_, rfl, (sc_sim (n := 9) (fun c hc => match c, hc with | 0, _ => T.sim_refl _ | 1, _ => T.sim_refl _ | 2, _ => T.sim_refl _ | 3, _ => T.sim_refl _ | 4, _ => T.sim_refl _ | 5, _ => T.sim_refl _ | 6, _ => T.sim_refl _ | 7, _ => T.sim_refl _ | 8, _ => T.sim_refl _ | c + 9, hc => absurd hc (by omega)))⟩, ⟨rfl, rfl⟩, ⟨rfl, rfl⟩, ⟨rfl, rfl⟩, ⟨rfl, rfl⟩, ⟨rfl, rfl⟩, ⟨rfl, rfl⟩, ⟨rfl, rfl⟩, Rf rfl, Rf rfl, Rf rfl, Rf rfl, Rf rfl, Rf rfl, Rf rfl, trivial⟩ rfl rfl) ?_
  refine AW.loop (fun i : KInv a.Files.length => (.sl 8 (.v (iv i.k)) :: .sl 2 (.p 2 [] 9 0 0) :: .sl 3 (.p 3 [] 9 0 0) :: .rt 1 .box (T.s 14 1 fun k c => ([(T.v (iv a.Next), none), (T.v (iv a.Tick), none), (T.j, none), (T.j, none), (T.j, none), (T.j, none), (T.j, none), (T.j, none), (T.j, none), (T.v (Value.bool a.Ready.Used), none), (T.j, none), (T.v (iv a.Ready.Head), none), (T.v (iv a.Ready.Len), none), (T.j, none)].getD (k * 14 + c) (T.j, none)).fst) :: .al 1 2 (.h base []) :: .al 1 3 (.h (base + 1) []) :: .al 1 4 (.h (base + 2) []) :: .al 1 5 (.h (base + 3) []) :: .al 1 6 (.h (base + 4) []) :: .al 1 7 (.h (base + 5) []) :: .al 1 8 (.h (base + 6) []) :: .al 1 10 (.h (base + 7) []) :: .al 1 13 (.h (base + 8) []) :: .rt base .ro (tr a.Progs) :: .rt (base + 1) .ro (tr a.Slots) :: .rt (base + 2) .ro (tr a.Ram) :: .rt (base + 3) .ro (tr a.Map) :: .rt (base + 4) .ro (tr a.Opens) :: .rt (base + 5) .ro (tr a.Pipes) :: .rt (base + 6) .ro (tr a.Files) :: .rt (base + 7) .ro (tr a.Ready.Buf) :: .rt (base + 8) .ro (tr a.Out) :: .sl 1 (.p 1 [] 14 0 0) :: .rt 2 .box (T.s 9 1 fun _ c => [T.v (iv 0), T.v (iv 0), T.s 1 0 fun _ _ => T.j, T.s 10 0 fun _ _ => T.j, T.s 5 0 fun _ _ => T.j, T.s 2 0 fun _ _ => T.j, T.s 2 0 fun _ _ => T.j, T.s 1 0 fun _ _ => T.j, T.s 1 0 fun _ _ => T.j].getD c T.j) :: .rt 3 .box (T.s 9 1 fun _ c => [T.v (iv a.Next), T.v (iv a.Tick), T.j, T.j, T.j, T.j, T.j, T.j, T.j].getD c T.j) :: .al 3 2 (.h 15 []) :: .al 3 3 (.h 46 []) :: .al 3 4 (.h 75 []) :: .al 3 5 (.h 101 []) :: .al 3 6 (.h 129 []) :: .al 3 7 (.h 18 []) :: .al 3 8 (.h 22 []) :: .rt 15 .row (tr a.Progs) :: .rt 46 .row (tr (sortK DProc.Pid (procsK a a.Slots.length))) :: .rt 75 .row (tr (opensK a a.Opens.length)) :: .rt 101 .row (tr (pipesK a a.Pipes.length)) :: .rt 129 .row (tr (filesK a i.k)) :: .rt 18 .row (tr (dataL a.Ready)) :: .rt 22 .row (tr a.Out) :: [])) (fun i => a.Files.length - i.k) ⟨0, Nat.zero_le _⟩ ?_
  intro i
  have hle := i.le
  have hkl := filesK_le (a := a) i.k
  refine sr2 ?_
  refine mn ?_
  refine qq (fA fl48_8) ?_
  refine ql ag45 ?_
  refine qh sl45 ?_
  refine nm ?_
  refine qb ?_
  refine nc (fun c7 => ?_) fun c7 => ?_
  ·try simp only [cnd] at c7
   refine jd (AW.seq (AW.block (sr ?_)))
   refine qq (fA fl48_8) ?_
   refine ql ag45 ?_
   refine nm ?_
   refine qm ?_
   refine qq (ix sl45 sz102) ?_
   refine qq (fA fl102_0) ?_
   refine nm ?_
   refine ql ag4 ?_
   refine nc (fun c8 => ?_) fun c8 => ?_
   ·have k8 := c8
    try simp only [cnd] at c8
    have hU : (a.Files.getD i.k En.dflt).Used = true := by first | exact c8 | exact k8 | simpa using k8
    have hik := wt_ge (show i.k < a.Files.length by omega)
    have hik2 : Mk.wt (a.Files.getD i.k En.dflt) = (a.Files.getD i.k En.dflt).Data.length := wt_ints _
    refine AW.draw [0, 1, 2, 4, 5, 6, 7, 8, 9, 11, 14] rfl (by decide +kernel) ?_
    refine tk 0 rfl (fA fl40_6) ?_
    refine tk 1 rfl (Qt.load1 rfl rfl rfl ag38) ?_
    refine na ?_
    refine tk 2 rfl Qt.move ?_
    refine tk 4 rfl (fA fl48_8) ?_
    refine tk 5 rfl (Qt.load1 rfl rfl rfl ag45) ?_
    refine na ?_
    refine tk 6 rfl Qt.move ?_
    refine tk 7 rfl (ix sl45 sz102) ?_
    refine tk 8 rfl (fA fl102_1) ?_
    refine na ?_
    refine tk 9 rfl (Qt.load1 rfl rfl rfl ag24) ?_
    refine a1 3 [0, 1, 2, 4, 5, 6, 7, 8, 9] [] rfl rfl sS ?_
    refine na ?_
    refine na ?_
    refine ae rfl (fA fl40_6) ?_
    refine na ?_
    refine ae rfl (Qt.load1 rfl rfl rfl ag38) ?_
    refine na ?_
    refine ae rfl Qt.move ?_
    refine na ?_
    refine ae rfl (fA fl48_8) ?_
    refine na ?_
    refine ae rfl (Qt.load1 rfl rfl rfl ag45) ?_
    refine na ?_
    refine ae rfl Qt.move ?_
    refine na ?_
    refine ae rfl (ix sl45 sz102) ?_
    refine na ?_
    refine ae rfl (fA fl102_1) ?_
    refine na ?_
    refine ae rfl (Qt.load1 rfl rfl rfl ag24) ?_
    refine na ?_
    refine a1 10 [0, 1, 2] [9, 3, 8, 7, 6, 5, 4] rfl rfl (by first | exact Stp.appendC rfl (by decide) (by decide) rfl rfl (by omega) | exact Stp.appendM rfl (by decide) (by decide) rfl rfl rfl (by omega)) ?_
    refine na ?_
    refine na ?_
    refine ae rfl (fA fl40_6) ?_
    refine na ?_
    refine ae rfl (Qt.load1 rfl rfl rfl ag38) ?_
    refine na ?_
    refine ae rfl Qt.move ?_
    refine na ?_
    refine AWA.rep 126 (tr (a.Files.getD i.k En.dflt).Data) rfl (app_nil (α := Int)) ?_
    refine na ?_
    refine tk 11 rfl (Qt.build rfl) ?_
    refine a1 12 [0, 1] [11, 10, 2, 9, 3, 8, 7, 6, 5, 4] rfl rfl sS ?_
    refine na ?_
    refine na ?_
    refine ae rfl (fA fl40_6) ?_
    refine na ?_
    refine ae rfl (Qt.load1 rfl rfl rfl ag38) ?_
    refine na ?_
    refine AWA.rep 128 (tr [(fileP i.k (a.Files.getD i.k En.dflt))]) rfl (row1_sim (α := DFile) (fun c hc => match c, hc with | 0, _ => T.sim_refl _ | 1, _ => T.sim_refl _ | c + 2, hc => absurd hc (by simp only [En.n]; omega))) ?_
    refine na ?_
    refine a1 13 [] [12, 10, 1, 11, 9, 3, 0, 2, 8, 7, 6, 5, 4] rfl rfl (Stp.appendM rfl (by decide) (by decide) rfl rfl rfl (by simp only [List.length_cons, List.length_nil, List.length_append]; omega)) ?_
    refine na ?_
    refine na ?_
    refine AWA.rep 129 (tr (filesK a (i.k + 1))) rfl (by rw [filesK_t hU]; exact app_sim (l := filesK a i.k) (l' := [fileP i.k (a.Files.getD i.k En.dflt)]) rfl (fun _ _ _ _ => rfl) (fun _ _ _ _ => rfl)) ?_
    refine na ?_
    refine tk 14 rfl (fA fl40_6) ?_
    refine a1 15 [] [14, 13, 12, 11, 10, 9, 8, 7, 6, 5, 4, 3, 2, 1, 0] rfl rfl (by first | exact Stp.storeA rfl rfl rfl rfl (by decide) rfl | exact Stp.store rfl rfl (by simp) rfl rfl rfl (by decide) rfl) ?_
    refine na ?_
    refine na ?_
    refine nz ?_
    refine AW.region ?_
    refine qm ?_
    refine ba ?_
    refine qn ?_
    refine ⟨⟨i.k + 1, by omega⟩, Weak.sim ⟨st1, rfl, rfl, Rf rfl, ⟨rfl, rfl⟩, ⟨rfl, rfl⟩, ⟨rfl, rfl⟩, ⟨rfl, rfl⟩, ⟨rfl, rfl⟩, ⟨rfl, rfl⟩, ⟨rfl, rfl⟩, ⟨rfl, rfl⟩, ⟨rfl, rfl⟩, Rf rfl, Rf rfl, Rf rfl, Rf rfl, Rf rfl, Rf rfl, Rf rfl, Rf rfl, Rf rfl, rfl, Rf rfl, ⟨_, rfl, (sc_sim (n := 9) (fun c hc => match c, hc with | 0, _ => T.sim_refl _ | 1, _ => T.sim_refl _ | 2, _ => T.sim_refl _ | 3, _ => T.sim_refl _ | 4, _ => T.sim_refl _ | 5, _ => T.sim_refl _ | 6, _ => T.sim_refl _ | 7, _ => T.sim_refl _ | 8, _ => T.sim_refl _ | c + 9, hc => absurd hc (by omega)))⟩, ⟨rfl, rfl⟩, ⟨rfl, rfl⟩, ⟨rfl, rfl⟩, ⟨rfl, rfl⟩, ⟨rfl, rfl⟩, ⟨rfl, rfl⟩, ⟨rfl, rfl⟩, Rf rfl, Rf rfl, Rf rfl, Rf rfl, Rf rfl, Rf rfl, Rf rfl, trivial⟩ rfl rfl, ?_⟩
    show a.Files.length - (i.k + 1) < a.Files.length - i.k
    omega
   have k8 := c8
   try simp only [cnd] at c8
   have hU : (a.Files.getD i.k En.dflt).Used = false := by first | exact c8 | exact k8 | simpa using k8
   refine jd (AW.region ?_)
   refine mn ?_
   refine AWL.rep 129 (tr (filesK a (i.k + 1))) rfl (by rw [filesK_f hU]; exact T.sim_refl _) ?_
   refine nm ?_
   refine ba ?_
   refine qn ?_
   refine ⟨⟨i.k + 1, by omega⟩, Weak.sim ⟨st1, rfl, rfl, Rf rfl, ⟨rfl, rfl⟩, ⟨rfl, rfl⟩, ⟨rfl, rfl⟩, ⟨rfl, rfl⟩, ⟨rfl, rfl⟩, ⟨rfl, rfl⟩, ⟨rfl, rfl⟩, ⟨rfl, rfl⟩, ⟨rfl, rfl⟩, Rf rfl, Rf rfl, Rf rfl, Rf rfl, Rf rfl, Rf rfl, Rf rfl, Rf rfl, Rf rfl, rfl, Rf rfl, ⟨_, rfl, (sc_sim (n := 9) (fun c hc => match c, hc with | 0, _ => T.sim_refl _ | 1, _ => T.sim_refl _ | 2, _ => T.sim_refl _ | 3, _ => T.sim_refl _ | 4, _ => T.sim_refl _ | 5, _ => T.sim_refl _ | 6, _ => T.sim_refl _ | 7, _ => T.sim_refl _ | 8, _ => T.sim_refl _ | c + 9, hc => absurd hc (by omega)))⟩, ⟨rfl, rfl⟩, ⟨rfl, rfl⟩, ⟨rfl, rfl⟩, ⟨rfl, rfl⟩, ⟨rfl, rfl⟩, ⟨rfl, rfl⟩, ⟨rfl, rfl⟩, Rf rfl, Rf rfl, Rf rfl, Rf rfl, Rf rfl, Rf rfl, Rf rfl, trivial⟩ rfl rfl, ?_⟩
   show a.Files.length - (i.k + 1) < a.Files.length - i.k
   omega
  try simp only [cnd] at c7
  refine AW.rep 129 (tr (filesK a a.Files.length)) rfl (by rw [show i.k = a.Files.length by omega]; exact T.sim_refl _) ?_
  refine AW.exit ?_
  dsimp only [thenQ, blockQ, reduceIte]
  refine sr ?_
  refine qG ag40 sz40 ?_
  refine nm ?_
  refine ss ?_
  refine nl ?_
  refine AW.ret (endQ_ret (.cons (.cellG 2 40 rfl rfl rfl ag40 sz40 (by decide)) .nil) ?_)
  refine ⟨fun i => if i = 0 then 15 else if i = 1 then 46 else if i = 2 then 75 else if i = 3 then 101 else if i = 4 then 129 else if i = 5 then 18 else 22, rfl, nodup_of rfl, ?_⟩
  intro r hr
  simp only [List.mem_cons, List.not_mem_nil, or_false] at hr
  rcases hr with rfl | rfl | rfl | rfl | rfl | rfl | rfl <;> exact ⟨by simp, rootL_mem rfl⟩
end Go.Proofs.YtldefnpobjabpaaGreat.VM
