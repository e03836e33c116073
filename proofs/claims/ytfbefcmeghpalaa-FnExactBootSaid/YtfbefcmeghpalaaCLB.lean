/- Contracts of functions of the program. No conditions beyond those that each states. -/
import Derived.Test.YtfbefcmeghpalaaCLA
set_option linter.all false
namespace Go.Proofs.Ytfbefcmeghpalaa.VM
open Go Go.RowKit Go.Proofs
set_option maxHeartbeats 8000000 in
set_option maxRecDepth 10000 in
theorem BootI_con (l : List (List DIns)) (hw : Mk.wt l ≤ 1048576) : Con Try.prog 17 [.h base []] [.rt base .ro (tr l)] (Ret (.t [.g [.v (iv (bootU l).Next), .v (iv (bootU l).Tick), .h 0 [], .h 1 [], .h 2 [], .h 3 [], .h 4 [], .h 5 [], .h 6 []], .v (.bool (progsOk l))]) [(0, .row, tr (bootU l).Progs), (1, .row, tr (bootU l).Procs), (2, .row, tr (bootU l).Opens), (3, .row, tr (bootU l).Pipes), (4, .row, tr (bootU l).Files), (5, .row, tr (bootU l).Ready), (6, .row, tr (bootU l).Out)]) := by
 refine Con.of_body Try.func17 rfl (by simp) ?_
 rw [Try.ntmps17]
 refine AW.len (base) [] rfl (by simp [Okp]) rfl (fun hl => ?_)
 have hap := any_pg l
 refine AW.seq (AW.region ?_)
 refine sp (Stp.alloc rfl (by decide) (by decide)) ?_
 refine nm ?_
 refine qq Qt.assign ?_
 refine nl ?_
 refine AW.seq (AW.seq (AW.region ?_))
 refine qq Qt.move ?_
 refine qq (Qt.lenH rfl rfl rfl sl39) ?_
 refine nm ?_
 refine cv Try.call42 rfl rfl (in_con _ _ _) ?_
 refine nm ?_
 refine qq (Qt.notB rfl) ?_
 refine qq Qt.move ?_
 apply AWL.cut 2
 ·intro Kg1
  refine AWL.splitF 9 rfl (fun g1 => ?_) (fun g1 => ?_)
  ·refine qg (nF g1) Qt.move ?_
   refine nm ?_
   refine AWL.step rfl (nF g1) (Stp.callV rfl (by decide) Try.call43 rfl rfl (hasPG_con Try.call44 (fun x => boot1_con x) l)) ?_
   refine nm ?_
   exact wj 11 [10, 11] (ifF g1 _ undef) (by simp only [go_sem, Int.reduceToNat, Nat.reduceLT, reduceIte, Nat.reduceEqDiff, Nat.reduceAdd, Nat.reduceMul, Nat.reduceBEq, reduceCtorEq]; rfl) Kg1
  ·refine og (nT g1) ?_
   refine og (nT g1) ?_
   exact wj 11 [10, 11] (ifT g1 undef _) (by simp only [go_sem, Int.reduceToNat, Nat.reduceLT, reduceIte, Nat.reduceEqDiff, Nat.reduceAdd, Nat.reduceMul, Nat.reduceBEq, reduceCtorEq]) Kg1
 refine qq (Qt.pickOr rfl rfl rfl) ?_
 refine nl ?_
 refine AW.cond rfl (fun c2 => ?_) (fun c2 => ?_)
 ·have k2 := c2
  try simp only [cnd] at c2
  refine AW.seq (AW.region ?_)
  refine qq (Qt.build rfl) ?_
  refine ss ?_
  refine nm ?_
  refine qq Qt.assign ?_
  refine nl ?_
  refine AW.weak (Weak.hoist 2 2 902 rfl (by decide) rfl rfl rfl) ?_
  refine AW.rep 902 (tr ([] : List (List DIns))) rfl sim_nil ?_
  refine AW.weak (Weak.hoist 2 3 903 rfl (by decide) rfl rfl rfl) ?_
  refine AW.rep 903 (tr ([] : List DProc)) rfl sim_nil ?_
  refine AW.weak (Weak.hoist 2 4 904 rfl (by decide) rfl rfl rfl) ?_
  refine AW.rep 904 (tr ([] : List DOpen)) rfl sim_nil ?_
  refine AW.weak (Weak.hoist 2 5 905 rfl (by decide) rfl rfl rfl) ?_
  refine AW.rep 905 (tr ([] : List DPipe)) rfl sim_nil ?_
  refine AW.weak (Weak.hoist 2 6 906 rfl (by decide) rfl rfl rfl) ?_
  refine AW.rep 906 (tr ([] : List DFile)) rfl sim_nil ?_
  refine AW.weak (Weak.hoist 2 7 907 rfl (by decide) rfl rfl rfl) ?_
  refine AW.rep 907 (tr ([] : List Int)) rfl sim_nil ?_
  refine AW.weak (Weak.hoist 2 8 908 rfl (by decide) rfl rfl rfl) ?_
  refine AW.rep 908 (tr ([] : List Int)) rfl sim_nil ?_
  refine AW.ret (endQ_ret (.cons (.cellG 2 45 rfl rfl rfl ag45 sz45 (by decide)) (.cons (.tmp 3) .nil)) ?_)
  have hb : progsOk l = false := by first | (simp only [progsOk]; grind) | grind
  rw [show bootU l = zeroU from if_neg (by rw [hb]; decide), hb]
  refine ⟨fun i => if i = 0 then 902 else if i = 1 then 903 else if i = 2 then 904 else if i = 3 then 905 else if i = 4 then 906 else if i = 5 then 907 else 908, rfl, nodup_of rfl, ?_⟩
  intro r hr
  simp only [List.mem_cons, List.not_mem_nil, or_false] at hr
  rcases hr with rfl | rfl | rfl | rfl | rfl | rfl | rfl <;> exact ⟨by simp, rootL_mem rfl⟩
 have k2 := c2
 try simp only [cnd] at c2
 refine jd (AW.seq ?_)
 refine AW.draw [1, 4] rfl (by decide +kernel) ?_
 apply AWA.cutS #[true, true, true, true, true, true, false] [1, 4]
 ·intro K3_10
  apply AWA.cutS #[true, true, true, true, true, false, false] [1, 4]
  ·intro K3_9
   apply AWA.cutS #[true, true, false, true, false, true, false] [1]
   ·intro K3_8
    apply AWA.cutS #[true, true, true, false, false, true, false] [1]
    ·intro K3_7
     apply AWA.cutS #[false, false, true, true, false, true, false] []
     ·intro K3_6
      apply AWA.cutS #[true, true, false, false, false, true, false] [1]
      ·intro K3_5
       apply AWA.cutS #[true, true, false, true, false, false, false] [1]
       ·intro K3_4
        apply AWA.cutS #[true, true, true, false, false, false, false] [1]
        ·intro K3_3
         apply AWA.cutS #[false, false, false, true, false, true, false] []
         ·intro K3_2
          apply AWA.cutS #[false, false, true, false, false, true, false] []
          ·intro K3_1
           apply AWA.cutS #[false, false, true, true, false, false, false] []
           ·intro K3_0
            refine AWA.anyL [0, 2, 3, 5] (by decide +kernel) rfl ⟨?_, ?_, ?_, ?_, trivial⟩
            ·refine AWA.arm 0 [] [] rfl rfl rfl (by decide +kernel) (by decide +kernel) (by decide +kernel) (Stp.makeSlice rfl (by decide) (by decide) rfl rfl (by omega) (by omega) (by omega)) ?_
             refine na ?_
             refine AWA.rep 14 (tr [0, 0, 0, (0 : Int)]) rfl (zeros4 fun _ _ => rfl) ?_
             refine na ?_
             refine AWA.take 1 rfl rfl rfl (by decide +kernel) (.on rfl rfl (Qt.build rfl)) ?_
             refine AWA.anyL [2, 3, 5] (by decide +kernel) rfl ⟨?_, ?_, ?_, trivial⟩
             ·refine AWA.arm 2 [1] [] rfl rfl rfl (by decide +kernel) (by decide +kernel) (by decide +kernel) (Stp.makeSlice rfl (by decide) (by decide) rfl rfl (by omega) (by omega) (by omega)) ?_
              refine na ?_
              refine AWA.againE rfl rfl (by decide +kernel) (.on rfl rfl (Qt.build rfl)) rfl ?_
              refine na ?_
              refine AWA.rep 16 (tr [0, 0, 0, (0 : Int)]) rfl (zeros4 fun _ _ => rfl) ?_
              refine na ?_
              exact AWA.use (by decide +kernel) (by decide +kernel) Weak.refl K3_3
             ·refine AWA.arm 3 [1] [] rfl rfl rfl (by decide +kernel) (by decide +kernel) (by decide +kernel) (Stp.callR rfl (by decide) Try.call46 rfl rfl noFds_con (nodup_of rfl) rfl rfl) ?_
              refine na ?_
              refine AWA.againE rfl rfl (by decide +kernel) (.on rfl rfl (Qt.build rfl)) rfl ?_
              refine na ?_
              exact AWA.use (by decide +kernel) (by decide +kernel) Weak.refl K3_4
             ·refine AWA.arm 5 [1] [] rfl rfl rfl (by decide +kernel) (by decide +kernel) (by decide +kernel) (Stp.alloc rfl (by decide) (by decide)) ?_
              refine na ?_
              refine AWA.againE rfl rfl (by decide +kernel) (.on rfl rfl (Qt.build rfl)) rfl ?_
              refine na ?_
              exact AWA.use (by decide +kernel) (by decide +kernel) Weak.refl K3_5
            ·refine AWA.arm 2 [] [] rfl rfl rfl (by decide +kernel) (by decide +kernel) (by decide +kernel) (Stp.makeSlice rfl (by decide) (by decide) rfl rfl (by omega) (by omega) (by omega)) ?_
             refine na ?_
             refine AWA.rep 16 (tr [0, 0, 0, (0 : Int)]) rfl (zeros4 fun _ _ => rfl) ?_
             refine na ?_
             refine AWA.anyL [0, 3, 5] (by decide +kernel) rfl ⟨?_, ?_, ?_, trivial⟩
             ·refine AWA.arm 0 [] [] rfl rfl rfl (by decide +kernel) (by decide +kernel) (by decide +kernel) (Stp.makeSlice rfl (by decide) (by decide) rfl rfl (by omega) (by omega) (by omega)) ?_
              refine na ?_
              refine AWA.rep 14 (tr [0, 0, 0, (0 : Int)]) rfl (zeros4 fun _ _ => rfl) ?_
              refine na ?_
              refine AWA.take 1 rfl rfl rfl (by decide +kernel) (.on rfl rfl (Qt.build rfl)) ?_
              refine na ?_
              exact AWA.use (by decide +kernel) (by decide +kernel) (Weak.sim (by repeat (first | exact trivial | refine ⟨rfl, ?_⟩ | refine ⟨⟨_, rfl, T.sim_refl _⟩, ?_⟩ | refine ⟨⟨rfl, rfl⟩, ?_⟩)) rfl rfl) K3_3
             ·refine AWA.arm 3 [] [] rfl rfl rfl (by decide +kernel) (by decide +kernel) (by decide +kernel) (Stp.callR rfl (by decide) Try.call46 rfl rfl noFds_con (nodup_of rfl) rfl rfl) ?_
              refine na ?_
              exact AWA.use (by decide +kernel) (by decide +kernel) Weak.refl K3_0
             ·refine AWA.arm 5 [] [] rfl rfl rfl (by decide +kernel) (by decide +kernel) (by decide +kernel) (Stp.alloc rfl (by decide) (by decide)) ?_
              refine na ?_
              exact AWA.use (by decide +kernel) (by decide +kernel) Weak.refl K3_1
            ·refine AWA.arm 3 [] [] rfl rfl rfl (by decide +kernel) (by decide +kernel) (by decide +kernel) (Stp.callR rfl (by decide) Try.call46 rfl rfl noFds_con (nodup_of rfl) rfl rfl) ?_
             refine na ?_
             refine AWA.anyL [0, 2, 5] (by decide +kernel) rfl ⟨?_, ?_, ?_, trivial⟩
             ·refine AWA.arm 0 [] [] rfl rfl rfl (by decide +kernel) (by decide +kernel) (by decide +kernel) (Stp.makeSlice rfl (by decide) (by decide) rfl rfl (by omega) (by omega) (by omega)) ?_
              refine na ?_
              refine AWA.rep 14 (tr [0, 0, 0, (0 : Int)]) rfl (zeros4 fun _ _ => rfl) ?_
              refine na ?_
              refine AWA.take 1 rfl rfl rfl (by decide +kernel) (.on rfl rfl (Qt.build rfl)) ?_
              refine na ?_
              exact AWA.use (by decide +kernel) (by decide +kernel) (Weak.sim (by repeat (first | exact trivial | refine ⟨rfl, ?_⟩ | refine ⟨⟨_, rfl, T.sim_refl _⟩, ?_⟩ | refine ⟨⟨rfl, rfl⟩, ?_⟩)) rfl rfl) K3_4
             ·refine AWA.arm 2 [] [] rfl rfl rfl (by decide +kernel) (by decide +kernel) (by decide +kernel) (Stp.makeSlice rfl (by decide) (by decide) rfl rfl (by omega) (by omega) (by omega)) ?_
              refine na ?_
              refine AWA.rep 16 (tr [0, 0, 0, (0 : Int)]) rfl (zeros4 fun _ _ => rfl) ?_
              refine na ?_
              exact AWA.use (by decide +kernel) (by decide +kernel) (Weak.sim (by repeat (first | exact trivial | refine ⟨rfl, ?_⟩ | refine ⟨⟨_, rfl, T.sim_refl _⟩, ?_⟩ | refine ⟨⟨rfl, rfl⟩, ?_⟩)) rfl rfl) K3_0
             ·refine AWA.arm 5 [] [] rfl rfl rfl (by decide +kernel) (by decide +kernel) (by decide +kernel) (Stp.alloc rfl (by decide) (by decide)) ?_
              refine na ?_
              exact AWA.use (by decide +kernel) (by decide +kernel) Weak.refl K3_2
            ·refine AWA.arm 5 [] [] rfl rfl rfl (by decide +kernel) (by decide +kernel) (by decide +kernel) (Stp.alloc rfl (by decide) (by decide)) ?_
             refine na ?_
             refine AWA.anyL [0, 2, 3] (by decide +kernel) rfl ⟨?_, ?_, ?_, trivial⟩
             ·refine AWA.arm 0 [] [] rfl rfl rfl (by decide +kernel) (by decide +kernel) (by decide +kernel) (Stp.makeSlice rfl (by decide) (by decide) rfl rfl (by omega) (by omega) (by omega)) ?_
              refine na ?_
              refine AWA.rep 14 (tr [0, 0, 0, (0 : Int)]) rfl (zeros4 fun _ _ => rfl) ?_
              refine na ?_
              refine AWA.take 1 rfl rfl rfl (by decide +kernel) (.on rfl rfl (Qt.build rfl)) ?_
              refine na ?_
              exact AWA.use (by decide +kernel) (by decide +kernel) (Weak.sim (by repeat (first | exact trivial | refine ⟨rfl, ?_⟩ | refine ⟨⟨_, rfl, T.sim_refl _⟩, ?_⟩ | refine ⟨⟨rfl, rfl⟩, ?_⟩)) rfl rfl) K3_5
             ·refine AWA.arm 2 [] [] rfl rfl rfl (by decide +kernel) (by decide +kernel) (by decide +kernel) (Stp.makeSlice rfl (by decide) (by decide) rfl rfl (by omega) (by omega) (by omega)) ?_
              refine na ?_
              refine AWA.rep 16 (tr [0, 0, 0, (0 : Int)]) rfl (zeros4 fun _ _ => rfl) ?_
              refine na ?_
              exact AWA.use (by decide +kernel) (by decide +kernel) (Weak.sim (by repeat (first | exact trivial | refine ⟨rfl, ?_⟩ | refine ⟨⟨_, rfl, T.sim_refl _⟩, ?_⟩ | refine ⟨⟨rfl, rfl⟩, ?_⟩)) rfl rfl) K3_1
             ·refine AWA.arm 3 [] [] rfl rfl rfl (by decide +kernel) (by decide +kernel) (by decide +kernel) (Stp.callR rfl (by decide) Try.call46 rfl rfl noFds_con (nodup_of rfl) rfl rfl) ?_
              refine na ?_
              exact AWA.use (by decide +kernel) (by decide +kernel) (Weak.sim (by repeat (first | exact trivial | refine ⟨rfl, ?_⟩ | refine ⟨⟨_, rfl, T.sim_refl _⟩, ?_⟩ | refine ⟨⟨rfl, rfl⟩, ?_⟩)) rfl rfl) K3_2
           ·refine AWA.anyL [0, 5] (by decide +kernel) rfl ⟨?_, ?_, trivial⟩
            ·refine AWA.arm 0 [] [] rfl rfl rfl (by decide +kernel) (by decide +kernel) (by decide +kernel) (Stp.makeSlice rfl (by decide) (by decide) rfl rfl (by omega) (by omega) (by omega)) ?_
             refine na ?_
             refine AWA.rep 14 (tr [0, 0, 0, (0 : Int)]) rfl (zeros4 fun _ _ => rfl) ?_
             refine na ?_
             refine AWA.take 1 rfl rfl rfl (by decide +kernel) (.on rfl rfl (Qt.build rfl)) ?_
             refine AWA.take 4 rfl rfl rfl (by decide +kernel) (.on rfl rfl (Qt.build rfl)) ?_
             refine na ?_
             exact AWA.use (by decide +kernel) (by decide +kernel) Weak.refl K3_9
            ·refine AWA.arm 5 [] [] rfl rfl rfl (by decide +kernel) (by decide +kernel) (by decide +kernel) (Stp.alloc rfl (by decide) (by decide)) ?_
             refine na ?_
             exact AWA.use (by decide +kernel) (by decide +kernel) Weak.refl K3_6
          ·refine AWA.anyL [0, 3] (by decide +kernel) rfl ⟨?_, ?_, trivial⟩
           ·refine AWA.arm 0 [] [] rfl rfl rfl (by decide +kernel) (by decide +kernel) (by decide +kernel) (Stp.makeSlice rfl (by decide) (by decide) rfl rfl (by omega) (by omega) (by omega)) ?_
            refine na ?_
            refine AWA.rep 14 (tr [0, 0, 0, (0 : Int)]) rfl (zeros4 fun _ _ => rfl) ?_
            refine na ?_
            refine AWA.take 1 rfl rfl rfl (by decide +kernel) (.on rfl rfl (Qt.build rfl)) ?_
            refine na ?_
            exact AWA.use (by decide +kernel) (by decide +kernel) Weak.refl K3_7
           ·refine AWA.arm 3 [] [] rfl rfl rfl (by decide +kernel) (by decide +kernel) (by decide +kernel) (Stp.callR rfl (by decide) Try.call46 rfl rfl noFds_con (nodup_of rfl) rfl rfl) ?_
            refine na ?_
            exact AWA.use (by decide +kernel) (by decide +kernel) (Weak.sim (by repeat (first | exact trivial | refine ⟨rfl, ?_⟩ | refine ⟨⟨_, rfl, T.sim_refl _⟩, ?_⟩ | refine ⟨⟨rfl, rfl⟩, ?_⟩)) rfl rfl) K3_6
         ·refine AWA.anyL [0, 2] (by decide +kernel) rfl ⟨?_, ?_, trivial⟩
          ·refine AWA.arm 0 [] [] rfl rfl rfl (by decide +kernel) (by decide +kernel) (by decide +kernel) (Stp.makeSlice rfl (by decide) (by decide) rfl rfl (by omega) (by omega) (by omega)) ?_
           refine na ?_
           refine AWA.rep 14 (tr [0, 0, 0, (0 : Int)]) rfl (zeros4 fun _ _ => rfl) ?_
           refine na ?_
           refine AWA.take 1 rfl rfl rfl (by decide +kernel) (.on rfl rfl (Qt.build rfl)) ?_
           refine na ?_
           exact AWA.use (by decide +kernel) (by decide +kernel) Weak.refl K3_8
          ·refine AWA.arm 2 [] [] rfl rfl rfl (by decide +kernel) (by decide +kernel) (by decide +kernel) (Stp.makeSlice rfl (by decide) (by decide) rfl rfl (by omega) (by omega) (by omega)) ?_
           refine na ?_
           refine AWA.rep 16 (tr [0, 0, 0, (0 : Int)]) rfl (zeros4 fun _ _ => rfl) ?_
           refine na ?_
           exact AWA.use (by decide +kernel) (by decide +kernel) (Weak.sim (by repeat (first | exact trivial | refine ⟨rfl, ?_⟩ | refine ⟨⟨_, rfl, T.sim_refl _⟩, ?_⟩ | refine ⟨⟨rfl, rfl⟩, ?_⟩)) rfl rfl) K3_6
        ·refine AWA.anyL [3, 5] (by decide +kernel) rfl ⟨?_, ?_, trivial⟩
         ·refine AWA.arm 3 [1] [] rfl rfl rfl (by decide +kernel) (by decide +kernel) (by decide +kernel) (Stp.callR rfl (by decide) Try.call46 rfl rfl noFds_con (nodup_of rfl) rfl rfl) ?_
          refine na ?_
          refine AWA.againE rfl rfl (by decide +kernel) (.on rfl rfl (Qt.build rfl)) rfl ?_
          refine na ?_
          refine AWA.take 4 rfl rfl rfl (by decide +kernel) (.on rfl rfl (Qt.build rfl)) ?_
          refine na ?_
          exact AWA.use (by decide +kernel) (by decide +kernel) (Weak.sim (by repeat (first | exact trivial | refine ⟨rfl, ?_⟩ | refine ⟨⟨_, rfl, T.sim_refl _⟩, ?_⟩ | refine ⟨⟨rfl, rfl⟩, ?_⟩)) rfl rfl) K3_9
         ·refine AWA.arm 5 [1] [] rfl rfl rfl (by decide +kernel) (by decide +kernel) (by decide +kernel) (Stp.alloc rfl (by decide) (by decide)) ?_
          refine na ?_
          refine AWA.againE rfl rfl (by decide +kernel) (.on rfl rfl (Qt.build rfl)) rfl ?_
          refine na ?_
          exact AWA.use (by decide +kernel) (by decide +kernel) (Weak.sim (by repeat (first | exact trivial | refine ⟨rfl, ?_⟩ | refine ⟨⟨_, rfl, T.sim_refl _⟩, ?_⟩ | refine ⟨⟨rfl, rfl⟩, ?_⟩)) rfl rfl) K3_7
       ·refine AWA.anyL [2, 5] (by decide +kernel) rfl ⟨?_, ?_, trivial⟩
        ·refine AWA.arm 2 [1] [] rfl rfl rfl (by decide +kernel) (by decide +kernel) (by decide +kernel) (Stp.makeSlice rfl (by decide) (by decide) rfl rfl (by omega) (by omega) (by omega)) ?_
         refine na ?_
         refine AWA.againE rfl rfl (by decide +kernel) (.on rfl rfl (Qt.build rfl)) rfl ?_
         refine na ?_
         refine AWA.rep 16 (tr [0, 0, 0, (0 : Int)]) rfl (zeros4 fun _ _ => rfl) ?_
         refine na ?_
         refine AWA.take 4 rfl rfl rfl (by decide +kernel) (.on rfl rfl (Qt.build rfl)) ?_
         refine na ?_
         exact AWA.use (by decide +kernel) (by decide +kernel) (Weak.sim (by repeat (first | exact trivial | refine ⟨rfl, ?_⟩ | refine ⟨⟨_, rfl, T.sim_refl _⟩, ?_⟩ | refine ⟨⟨rfl, rfl⟩, ?_⟩)) rfl rfl) K3_9
        ·refine AWA.arm 5 [1] [] rfl rfl rfl (by decide +kernel) (by decide +kernel) (by decide +kernel) (Stp.alloc rfl (by decide) (by decide)) ?_
         refine na ?_
         refine AWA.againE rfl rfl (by decide +kernel) (.on rfl rfl (Qt.build rfl)) rfl ?_
         refine na ?_
         exact AWA.use (by decide +kernel) (by decide +kernel) (Weak.sim (by repeat (first | exact trivial | refine ⟨rfl, ?_⟩ | refine ⟨⟨_, rfl, T.sim_refl _⟩, ?_⟩ | refine ⟨⟨rfl, rfl⟩, ?_⟩)) rfl rfl) K3_8
      ·refine AWA.anyL [2, 3] (by decide +kernel) rfl ⟨?_, ?_, trivial⟩
       ·refine AWA.arm 2 [1] [] rfl rfl rfl (by decide +kernel) (by decide +kernel) (by decide +kernel) (Stp.makeSlice rfl (by decide) (by decide) rfl rfl (by omega) (by omega) (by omega)) ?_
        refine na ?_
        refine AWA.againE rfl rfl (by decide +kernel) (.on rfl rfl (Qt.build rfl)) rfl ?_
        refine na ?_
        refine AWA.rep 16 (tr [0, 0, 0, (0 : Int)]) rfl (zeros4 fun _ _ => rfl) ?_
        refine na ?_
        exact AWA.use (by decide +kernel) (by decide +kernel) (Weak.sim (by repeat (first | exact trivial | refine ⟨rfl, ?_⟩ | refine ⟨⟨_, rfl, T.sim_refl _⟩, ?_⟩ | refine ⟨⟨rfl, rfl⟩, ?_⟩)) rfl rfl) K3_7
       ·refine AWA.arm 3 [1] [] rfl rfl rfl (by decide +kernel) (by decide +kernel) (by decide +kernel) (Stp.callR rfl (by decide) Try.call46 rfl rfl noFds_con (nodup_of rfl) rfl rfl) ?_
        refine na ?_
        refine AWA.againE rfl rfl (by decide +kernel) (.on rfl rfl (Qt.build rfl)) rfl ?_
        refine na ?_
        exact AWA.use (by decide +kernel) (by decide +kernel) (Weak.sim (by repeat (first | exact trivial | refine ⟨rfl, ?_⟩ | refine ⟨⟨_, rfl, T.sim_refl _⟩, ?_⟩ | refine ⟨⟨rfl, rfl⟩, ?_⟩)) rfl rfl) K3_8
     ·refine AWA.one 0 [] [] (by decide +kernel) rfl rfl rfl (by decide +kernel) (by decide +kernel) (by decide +kernel) (Stp.makeSlice rfl (by decide) (by decide) rfl rfl (by omega) (by omega) (by omega)) ?_
      refine na ?_
      refine AWA.rep 14 (tr [0, 0, 0, (0 : Int)]) rfl (zeros4 fun _ _ => rfl) ?_
      refine na ?_
      refine AWA.take 1 rfl rfl rfl (by decide +kernel) (.on rfl rfl (Qt.build rfl)) ?_
      refine AWA.take 4 rfl rfl rfl (by decide +kernel) (.on rfl rfl (Qt.build rfl)) ?_
      refine na ?_
      exact AWA.use (by decide +kernel) (by decide +kernel) Weak.refl K3_10
    ·refine AWA.one 3 [1] [] (by decide +kernel) rfl rfl rfl (by decide +kernel) (by decide +kernel) (by decide +kernel) (Stp.callR rfl (by decide) Try.call46 rfl rfl noFds_con (nodup_of rfl) rfl rfl) ?_
     refine na ?_
     refine AWA.againE rfl rfl (by decide +kernel) (.on rfl rfl (Qt.build rfl)) rfl ?_
     refine na ?_
     refine AWA.take 4 rfl rfl rfl (by decide +kernel) (.on rfl rfl (Qt.build rfl)) ?_
     refine na ?_
     exact AWA.use (by decide +kernel) (by decide +kernel) (Weak.sim (by repeat (first | exact trivial | refine ⟨rfl, ?_⟩ | refine ⟨⟨_, rfl, T.sim_refl _⟩, ?_⟩ | refine ⟨⟨rfl, rfl⟩, ?_⟩)) rfl rfl) K3_10
   ·refine AWA.one 2 [1] [] (by decide +kernel) rfl rfl rfl (by decide +kernel) (by decide +kernel) (by decide +kernel) (Stp.makeSlice rfl (by decide) (by decide) rfl rfl (by omega) (by omega) (by omega)) ?_
    refine na ?_
    refine AWA.againE rfl rfl (by decide +kernel) (.on rfl rfl (Qt.build rfl)) rfl ?_
    refine na ?_
    refine AWA.rep 16 (tr [0, 0, 0, (0 : Int)]) rfl (zeros4 fun _ _ => rfl) ?_
    refine na ?_
    refine AWA.take 4 rfl rfl rfl (by decide +kernel) (.on rfl rfl (Qt.build rfl)) ?_
    refine na ?_
    exact AWA.use (by decide +kernel) (by decide +kernel) (Weak.sim (by repeat (first | exact trivial | refine ⟨rfl, ?_⟩ | refine ⟨⟨_, rfl, T.sim_refl _⟩, ?_⟩ | refine ⟨⟨rfl, rfl⟩, ?_⟩)) rfl rfl) K3_10
  ·refine AWA.one 5 [1, 4] [] (by decide +kernel) rfl rfl rfl (by decide +kernel) (by decide +kernel) (by decide +kernel) (Stp.alloc rfl (by decide) (by decide)) ?_
   refine na ?_
   refine AWA.againE rfl rfl (by decide +kernel) (.on rfl rfl (Qt.build rfl)) rfl ?_
   refine AWA.againE rfl rfl (by decide +kernel) (.on rfl rfl (Qt.build rfl)) rfl ?_
   refine na ?_
   exact AWA.use (by decide +kernel) (by decide +kernel) (Weak.sim (by repeat (first | exact trivial | refine ⟨rfl, ?_⟩ | refine ⟨⟨_, rfl, T.sim_refl _⟩, ?_⟩ | refine ⟨⟨rfl, rfl⟩, ?_⟩)) rfl rfl) K3_10
 ·refine AWA.one 6 [] [5, 4, 3, 2, 1, 0] (by decide +kernel) rfl rfl rfl (by decide +kernel) (by decide +kernel) (by decide +kernel) (by first | exact Stp.storeA rfl rfl rfl rfl (by decide) rfl | exact Stp.store rfl rfl (by simp) rfl rfl rfl (by decide) rfl) ?_
  refine na ?_
  refine nz ?_
  refine AW.seq ?_
  refine AW.draw [0, 1, 2, 3, 4, 6] rfl (by decide +kernel) ?_
  refine tk 0 rfl (fA fl78_6) ?_
  refine tk 1 rfl (Qt.load1 rfl rfl rfl ag35) ?_
  refine na ?_
  refine tk 2 rfl (fA fl78_6) ?_
  refine tk 3 rfl (Qt.load1 rfl rfl rfl ag35) ?_
  refine tk 4 rfl (Qt.indexAddr rfl rfl rfl rfl sl35 sz3 (by decide) (by first | omega | simp)) ?_
  refine na ?_
  refine a1 5 [2, 3] [4, 1, 0] rfl rfl (by first | exact Stp.storeA rfl rfl rfl rfl (by decide) rfl | exact Stp.store rfl rfl (by simp) rfl rfl rfl (by decide) rfl) ?_
  refine na ?_
  refine AWA.againE rfl rfl (by decide +kernel) (.on rfl rfl (fA fl78_6)) rfl ?_
  refine AWA.againE rfl rfl (by decide +kernel) (.on rfl rfl (Qt.load1 rfl rfl rfl ag35)) rfl ?_
  refine na ?_
  refine tk 6 rfl (Qt.indexAddr rfl rfl rfl rfl sl35 sz3 (by decide) (by first | omega | simp)) ?_
  refine a1 7 [] [6, 5, 4, 3, 2, 1, 0] rfl rfl (by first | exact Stp.storeA rfl rfl rfl rfl (by decide) rfl | exact Stp.store rfl rfl (by simp) rfl rfl rfl (by decide) rfl) ?_
  refine na ?_
  refine na ?_
  refine AWA.rep 17 (tr [0, 0, -1, (-1 : Int)]) rfl (fds2 rfl rfl rfl rfl) ?_
  refine na ?_
  refine nz ?_
  refine AW.seq ?_
  refine AW.draw [0, 2, 4, 7, 9] rfl (by decide +kernel) ?_
  refine tk 0 rfl Qt.move ?_
  refine tk 2 rfl (Qt.loadG rfl rfl rfl ag78 sz78 (by decide)) ?_
  refine tk 4 rfl (Qt.build rfl) ?_
  refine na ?_
  apply AWA.cutS #[true, true, true, true, true, true, true, true, false, false] [7]
  ·intro K5_10
   apply AWA.cutS #[true, false, true, true, true, true, true, false, false, false] [0]
   ·intro K5_9
    apply AWA.cutS #[true, true, true, false, true, true, true, false, false, false] [2]
    ·intro K5_8
     apply AWA.cutS #[true, true, true, true, true, false, true, false, false, false] [4]
     ·intro K5_7
      apply AWA.cutS #[true, true, true, true, true, true, false, false, false, false] []
      ·intro K5_6
       apply AWA.cutS #[true, false, true, false, true, true, true, false, false, false] [0, 2]
       ·intro K5_5
        apply AWA.cutS #[true, false, true, true, true, false, true, false, false, false] [0, 4]
        ·intro K5_4
         apply AWA.cutS #[true, false, true, true, true, true, false, false, false, false] [0]
         ·intro K5_3
          apply AWA.cutS #[true, true, true, false, true, false, true, false, false, false] [2, 4]
          ·intro K5_2
           apply AWA.cutS #[true, true, true, false, true, true, false, false, false, false] [2]
           ·intro K5_1
            apply AWA.cutS #[true, true, true, true, true, false, false, false, false, false] [4]
            ·intro K5_0
             refine AWA.anyL [1, 3, 5, 6] (by decide +kernel) rfl ⟨?_, ?_, ?_, ?_, trivial⟩
             ·refine AWA.arm 1 [2, 4] [0] rfl rfl rfl (by decide +kernel) (by decide +kernel) (by decide +kernel) (Stp.callR rfl (by decide) Try.call47 rfl rfl (cloneProgs_con l hw) (nodup_of rfl) rfl rfl) ?_
              refine na ?_
              refine AWA.againE rfl rfl (by decide +kernel) (.on rfl rfl (Qt.loadG rfl rfl rfl ag78 sz78 (by decide))) rfl ?_
              refine AWA.againE rfl rfl (by decide +kernel) (.on rfl rfl (Qt.build rfl)) rfl ?_
              refine na ?_
              refine AWA.anyL [3, 5, 6] (by decide +kernel) rfl ⟨?_, ?_, ?_, trivial⟩
              ·refine AWA.arm 3 [4] [2] rfl rfl rfl (by decide +kernel) (by decide +kernel) (by decide +kernel) (Stp.buildSlice rfl (by decide) (by decide) rfl (by decide) rfl rfl rfl (nodup_of rfl)) ?_
               refine na ?_
               refine AWA.againE rfl rfl (by decide +kernel) (.on rfl rfl (Qt.build rfl)) rfl ?_
               refine na ?_
               exact AWA.use (by decide +kernel) (by decide +kernel) Weak.refl K5_0
              ·refine AWA.arm 5 [2] [4] rfl rfl rfl (by decide +kernel) (by decide +kernel) (by decide +kernel) (Stp.buildSlice rfl (by decide) (by decide) rfl (by decide) rfl rfl rfl (nodup_of rfl)) ?_
               refine na ?_
               refine AWA.againE rfl rfl (by decide +kernel) (.on rfl rfl (Qt.loadG rfl rfl rfl ag78 sz78 (by decide))) rfl ?_
               refine na ?_
               exact AWA.use (by decide +kernel) (by decide +kernel) Weak.refl K5_1
              ·refine AWA.arm 6 [2, 4] [] rfl rfl rfl (by decide +kernel) (by decide +kernel) (by decide +kernel) (Stp.buildSlice rfl (by decide) (by decide) rfl (by decide) rfl rfl rfl (nodup_of rfl)) ?_
               refine na ?_
               refine AWA.againE rfl rfl (by decide +kernel) (.on rfl rfl (Qt.loadG rfl rfl rfl ag78 sz78 (by decide))) rfl ?_
               refine AWA.againE rfl rfl (by decide +kernel) (.on rfl rfl (Qt.build rfl)) rfl ?_
               refine na ?_
               exact AWA.use (by decide +kernel) (by decide +kernel) Weak.refl K5_2
             ·refine AWA.arm 3 [0, 4] [2] rfl rfl rfl (by decide +kernel) (by decide +kernel) (by decide +kernel) (Stp.buildSlice rfl (by decide) (by decide) rfl (by decide) rfl rfl rfl (nodup_of rfl)) ?_
              refine na ?_
              refine AWA.againE rfl rfl (by decide +kernel) (.on rfl rfl Qt.move) rfl ?_
              refine AWA.againE rfl rfl (by decide +kernel) (.on rfl rfl (Qt.build rfl)) rfl ?_
              refine na ?_
              refine AWA.anyL [1, 5, 6] (by decide +kernel) rfl ⟨?_, ?_, ?_, trivial⟩
              ·refine AWA.arm 1 [4] [0] rfl rfl rfl (by decide +kernel) (by decide +kernel) (by decide +kernel) (Stp.callR rfl (by decide) Try.call47 rfl rfl (cloneProgs_con l hw) (nodup_of rfl) rfl rfl) ?_
               refine na ?_
               refine AWA.againE rfl rfl (by decide +kernel) (.on rfl rfl (Qt.build rfl)) rfl ?_
               refine na ?_
               exact AWA.use (by decide +kernel) (by decide +kernel) (Weak.sim (by repeat (first | exact trivial | refine ⟨rfl, ?_⟩ | refine ⟨⟨_, rfl, T.sim_refl _⟩, ?_⟩ | refine ⟨⟨rfl, rfl⟩, ?_⟩)) rfl rfl) K5_0
              ·refine AWA.arm 5 [0] [4] rfl rfl rfl (by decide +kernel) (by decide +kernel) (by decide +kernel) (Stp.buildSlice rfl (by decide) (by decide) rfl (by decide) rfl rfl rfl (nodup_of rfl)) ?_
               refine na ?_
               refine AWA.againE rfl rfl (by decide +kernel) (.on rfl rfl Qt.move) rfl ?_
               refine na ?_
               exact AWA.use (by decide +kernel) (by decide +kernel) Weak.refl K5_3
              ·refine AWA.arm 6 [0, 4] [] rfl rfl rfl (by decide +kernel) (by decide +kernel) (by decide +kernel) (Stp.buildSlice rfl (by decide) (by decide) rfl (by decide) rfl rfl rfl (nodup_of rfl)) ?_
               refine na ?_
               refine AWA.againE rfl rfl (by decide +kernel) (.on rfl rfl Qt.move) rfl ?_
               refine AWA.againE rfl rfl (by decide +kernel) (.on rfl rfl (Qt.build rfl)) rfl ?_
               refine na ?_
               exact AWA.use (by decide +kernel) (by decide +kernel) Weak.refl K5_4
             ·refine AWA.arm 5 [0, 2] [4] rfl rfl rfl (by decide +kernel) (by decide +kernel) (by decide +kernel) (Stp.buildSlice rfl (by decide) (by decide) rfl (by decide) rfl rfl rfl (nodup_of rfl)) ?_
              refine na ?_
              refine AWA.againE rfl rfl (by decide +kernel) (.on rfl rfl Qt.move) rfl ?_
              refine AWA.againE rfl rfl (by decide +kernel) (.on rfl rfl (Qt.loadG rfl rfl rfl ag78 sz78 (by decide))) rfl ?_
              refine na ?_
              refine AWA.anyL [1, 3, 6] (by decide +kernel) rfl ⟨?_, ?_, ?_, trivial⟩
              ·refine AWA.arm 1 [2] [0] rfl rfl rfl (by decide +kernel) (by decide +kernel) (by decide +kernel) (Stp.callR rfl (by decide) Try.call47 rfl rfl (cloneProgs_con l hw) (nodup_of rfl) rfl rfl) ?_
               refine na ?_
               refine AWA.againE rfl rfl (by decide +kernel) (.on rfl rfl (Qt.loadG rfl rfl rfl ag78 sz78 (by decide))) rfl ?_
               refine na ?_
               exact AWA.use (by decide +kernel) (by decide +kernel) (Weak.sim (by repeat (first | exact trivial | refine ⟨rfl, ?_⟩ | refine ⟨⟨_, rfl, T.sim_refl _⟩, ?_⟩ | refine ⟨⟨rfl, rfl⟩, ?_⟩)) rfl rfl) K5_1
              ·refine AWA.arm 3 [0] [2] rfl rfl rfl (by decide +kernel) (by decide +kernel) (by decide +kernel) (Stp.buildSlice rfl (by decide) (by decide) rfl (by decide) rfl rfl rfl (nodup_of rfl)) ?_
               refine na ?_
               refine AWA.againE rfl rfl (by decide +kernel) (.on rfl rfl Qt.move) rfl ?_
               refine na ?_
               exact AWA.use (by decide +kernel) (by decide +kernel) (Weak.sim (by repeat (first | exact trivial | refine ⟨rfl, ?_⟩ | refine ⟨⟨_, rfl, T.sim_refl _⟩, ?_⟩ | refine ⟨⟨rfl, rfl⟩, ?_⟩)) rfl rfl) K5_3
              ·refine AWA.arm 6 [0, 2] [] rfl rfl rfl (by decide +kernel) (by decide +kernel) (by decide +kernel) (Stp.buildSlice rfl (by decide) (by decide) rfl (by decide) rfl rfl rfl (nodup_of rfl)) ?_
               refine na ?_
               refine AWA.againE rfl rfl (by decide +kernel) (.on rfl rfl Qt.move) rfl ?_
               refine AWA.againE rfl rfl (by decide +kernel) (.on rfl rfl (Qt.loadG rfl rfl rfl ag78 sz78 (by decide))) rfl ?_
               refine na ?_
               exact AWA.use (by decide +kernel) (by decide +kernel) Weak.refl K5_5
             ·refine AWA.arm 6 [0, 2, 4] [] rfl rfl rfl (by decide +kernel) (by decide +kernel) (by decide +kernel) (Stp.buildSlice rfl (by decide) (by decide) rfl (by decide) rfl rfl rfl (nodup_of rfl)) ?_
              refine na ?_
              refine AWA.againE rfl rfl (by decide +kernel) (.on rfl rfl Qt.move) rfl ?_
              refine AWA.againE rfl rfl (by decide +kernel) (.on rfl rfl (Qt.loadG rfl rfl rfl ag78 sz78 (by decide))) rfl ?_
              refine AWA.againE rfl rfl (by decide +kernel) (.on rfl rfl (Qt.build rfl)) rfl ?_
              refine na ?_
              refine AWA.anyL [1, 3, 5] (by decide +kernel) rfl ⟨?_, ?_, ?_, trivial⟩
              ·refine AWA.arm 1 [2, 4] [0] rfl rfl rfl (by decide +kernel) (by decide +kernel) (by decide +kernel) (Stp.callR rfl (by decide) Try.call47 rfl rfl (cloneProgs_con l hw) (nodup_of rfl) rfl rfl) ?_
               refine na ?_
               refine AWA.againE rfl rfl (by decide +kernel) (.on rfl rfl (Qt.loadG rfl rfl rfl ag78 sz78 (by decide))) rfl ?_
               refine AWA.againE rfl rfl (by decide +kernel) (.on rfl rfl (Qt.build rfl)) rfl ?_
               refine na ?_
               exact AWA.use (by decide +kernel) (by decide +kernel) (Weak.sim (by repeat (first | exact trivial | refine ⟨rfl, ?_⟩ | refine ⟨⟨_, rfl, T.sim_refl _⟩, ?_⟩ | refine ⟨⟨rfl, rfl⟩, ?_⟩)) rfl rfl) K5_2
              ·refine AWA.arm 3 [0, 4] [2] rfl rfl rfl (by decide +kernel) (by decide +kernel) (by decide +kernel) (Stp.buildSlice rfl (by decide) (by decide) rfl (by decide) rfl rfl rfl (nodup_of rfl)) ?_
               refine na ?_
               refine AWA.againE rfl rfl (by decide +kernel) (.on rfl rfl Qt.move) rfl ?_
               refine AWA.againE rfl rfl (by decide +kernel) (.on rfl rfl (Qt.build rfl)) rfl ?_
               refine na ?_
               exact AWA.use (by decide +kernel) (by decide +kernel) (Weak.sim (by repeat (first | exact trivial | refine ⟨rfl, ?_⟩ | refine ⟨⟨_, rfl, T.sim_refl _⟩, ?_⟩ | refine ⟨⟨rfl, rfl⟩, ?_⟩)) rfl rfl) K5_4
              ·refine AWA.arm 5 [0, 2] [4] rfl rfl rfl (by decide +kernel) (by decide +kernel) (by decide +kernel) (Stp.buildSlice rfl (by decide) (by decide) rfl (by decide) rfl rfl rfl (nodup_of rfl)) ?_
               refine na ?_
               refine AWA.againE rfl rfl (by decide +kernel) (.on rfl rfl Qt.move) rfl ?_
               refine AWA.againE rfl rfl (by decide +kernel) (.on rfl rfl (Qt.loadG rfl rfl rfl ag78 sz78 (by decide))) rfl ?_
               refine na ?_
               exact AWA.use (by decide +kernel) (by decide +kernel) (Weak.sim (by repeat (first | exact trivial | refine ⟨rfl, ?_⟩ | refine ⟨⟨_, rfl, T.sim_refl _⟩, ?_⟩ | refine ⟨⟨rfl, rfl⟩, ?_⟩)) rfl rfl) K5_5
            ·refine AWA.anyL [5, 6] (by decide +kernel) rfl ⟨?_, ?_, trivial⟩
             ·refine AWA.arm 5 [] [4] rfl rfl rfl (by decide +kernel) (by decide +kernel) (by decide +kernel) (Stp.buildSlice rfl (by decide) (by decide) rfl (by decide) rfl rfl rfl (nodup_of rfl)) ?_
              refine na ?_
              exact AWA.use (by decide +kernel) (by decide +kernel) Weak.refl K5_6
             ·refine AWA.arm 6 [4] [] rfl rfl rfl (by decide +kernel) (by decide +kernel) (by decide +kernel) (Stp.buildSlice rfl (by decide) (by decide) rfl (by decide) rfl rfl rfl (nodup_of rfl)) ?_
              refine na ?_
              refine AWA.againE rfl rfl (by decide +kernel) (.on rfl rfl (Qt.build rfl)) rfl ?_
              refine na ?_
              exact AWA.use (by decide +kernel) (by decide +kernel) Weak.refl K5_7
           ·refine AWA.anyL [3, 6] (by decide +kernel) rfl ⟨?_, ?_, trivial⟩
            ·refine AWA.arm 3 [] [2] rfl rfl rfl (by decide +kernel) (by decide +kernel) (by decide +kernel) (Stp.buildSlice rfl (by decide) (by decide) rfl (by decide) rfl rfl rfl (nodup_of rfl)) ?_
             refine na ?_
             exact AWA.use (by decide +kernel) (by decide +kernel) (Weak.sim (by repeat (first | exact trivial | refine ⟨rfl, ?_⟩ | refine ⟨⟨_, rfl, T.sim_refl _⟩, ?_⟩ | refine ⟨⟨rfl, rfl⟩, ?_⟩)) rfl rfl) K5_6
            ·refine AWA.arm 6 [2] [] rfl rfl rfl (by decide +kernel) (by decide +kernel) (by decide +kernel) (Stp.buildSlice rfl (by decide) (by decide) rfl (by decide) rfl rfl rfl (nodup_of rfl)) ?_
             refine na ?_
             refine AWA.againE rfl rfl (by decide +kernel) (.on rfl rfl (Qt.loadG rfl rfl rfl ag78 sz78 (by decide))) rfl ?_
             refine na ?_
             exact AWA.use (by decide +kernel) (by decide +kernel) Weak.refl K5_8
          ·refine AWA.anyL [3, 5] (by decide +kernel) rfl ⟨?_, ?_, trivial⟩
           ·refine AWA.arm 3 [4] [2] rfl rfl rfl (by decide +kernel) (by decide +kernel) (by decide +kernel) (Stp.buildSlice rfl (by decide) (by decide) rfl (by decide) rfl rfl rfl (nodup_of rfl)) ?_
            refine na ?_
            refine AWA.againE rfl rfl (by decide +kernel) (.on rfl rfl (Qt.build rfl)) rfl ?_
            refine na ?_
            exact AWA.use (by decide +kernel) (by decide +kernel) (Weak.sim (by repeat (first | exact trivial | refine ⟨rfl, ?_⟩ | refine ⟨⟨_, rfl, T.sim_refl _⟩, ?_⟩ | refine ⟨⟨rfl, rfl⟩, ?_⟩)) rfl rfl) K5_7
           ·refine AWA.arm 5 [2] [4] rfl rfl rfl (by decide +kernel) (by decide +kernel) (by decide +kernel) (Stp.buildSlice rfl (by decide) (by decide) rfl (by decide) rfl rfl rfl (nodup_of rfl)) ?_
            refine na ?_
            refine AWA.againE rfl rfl (by decide +kernel) (.on rfl rfl (Qt.loadG rfl rfl rfl ag78 sz78 (by decide))) rfl ?_
            refine na ?_
            exact AWA.use (by decide +kernel) (by decide +kernel) (Weak.sim (by repeat (first | exact trivial | refine ⟨rfl, ?_⟩ | refine ⟨⟨_, rfl, T.sim_refl _⟩, ?_⟩ | refine ⟨⟨rfl, rfl⟩, ?_⟩)) rfl rfl) K5_8
         ·refine AWA.anyL [1, 6] (by decide +kernel) rfl ⟨?_, ?_, trivial⟩
          ·refine AWA.arm 1 [] [0] rfl rfl rfl (by decide +kernel) (by decide +kernel) (by decide +kernel) (Stp.callR rfl (by decide) Try.call47 rfl rfl (cloneProgs_con l hw) (nodup_of rfl) rfl rfl) ?_
           refine na ?_
           exact AWA.use (by decide +kernel) (by decide +kernel) (Weak.sim (by repeat (first | exact trivial | refine ⟨rfl, ?_⟩ | refine ⟨⟨_, rfl, T.sim_refl _⟩, ?_⟩ | refine ⟨⟨rfl, rfl⟩, ?_⟩)) rfl rfl) K5_6
          ·refine AWA.arm 6 [0] [] rfl rfl rfl (by decide +kernel) (by decide +kernel) (by decide +kernel) (Stp.buildSlice rfl (by decide) (by decide) rfl (by decide) rfl rfl rfl (nodup_of rfl)) ?_
           refine na ?_
           refine AWA.againE rfl rfl (by decide +kernel) (.on rfl rfl Qt.move) rfl ?_
           refine na ?_
           exact AWA.use (by decide +kernel) (by decide +kernel) Weak.refl K5_9
        ·refine AWA.anyL [1, 5] (by decide +kernel) rfl ⟨?_, ?_, trivial⟩
         ·refine AWA.arm 1 [4] [0] rfl rfl rfl (by decide +kernel) (by decide +kernel) (by decide +kernel) (Stp.callR rfl (by decide) Try.call47 rfl rfl (cloneProgs_con l hw) (nodup_of rfl) rfl rfl) ?_
          refine na ?_
          refine AWA.againE rfl rfl (by decide +kernel) (.on rfl rfl (Qt.build rfl)) rfl ?_
          refine na ?_
          exact AWA.use (by decide +kernel) (by decide +kernel) (Weak.sim (by repeat (first | exact trivial | refine ⟨rfl, ?_⟩ | refine ⟨⟨_, rfl, T.sim_refl _⟩, ?_⟩ | refine ⟨⟨rfl, rfl⟩, ?_⟩)) rfl rfl) K5_7
         ·refine AWA.arm 5 [0] [4] rfl rfl rfl (by decide +kernel) (by decide +kernel) (by decide +kernel) (Stp.buildSlice rfl (by decide) (by decide) rfl (by decide) rfl rfl rfl (nodup_of rfl)) ?_
          refine na ?_
          refine AWA.againE rfl rfl (by decide +kernel) (.on rfl rfl Qt.move) rfl ?_
          refine na ?_
          exact AWA.use (by decide +kernel) (by decide +kernel) (Weak.sim (by repeat (first | exact trivial | refine ⟨rfl, ?_⟩ | refine ⟨⟨_, rfl, T.sim_refl _⟩, ?_⟩ | refine ⟨⟨rfl, rfl⟩, ?_⟩)) rfl rfl) K5_9
       ·refine AWA.anyL [1, 3] (by decide +kernel) rfl ⟨?_, ?_, trivial⟩
        ·refine AWA.arm 1 [2] [0] rfl rfl rfl (by decide +kernel) (by decide +kernel) (by decide +kernel) (Stp.callR rfl (by decide) Try.call47 rfl rfl (cloneProgs_con l hw) (nodup_of rfl) rfl rfl) ?_
         refine na ?_
         refine AWA.againE rfl rfl (by decide +kernel) (.on rfl rfl (Qt.loadG rfl rfl rfl ag78 sz78 (by decide))) rfl ?_
         refine na ?_
         exact AWA.use (by decide +kernel) (by decide +kernel) (Weak.sim (by repeat (first | exact trivial | refine ⟨rfl, ?_⟩ | refine ⟨⟨_, rfl, T.sim_refl _⟩, ?_⟩ | refine ⟨⟨rfl, rfl⟩, ?_⟩)) rfl rfl) K5_8
        ·refine AWA.arm 3 [0] [2] rfl rfl rfl (by decide +kernel) (by decide +kernel) (by decide +kernel) (Stp.buildSlice rfl (by decide) (by decide) rfl (by decide) rfl rfl rfl (nodup_of rfl)) ?_
         refine na ?_
         refine AWA.againE rfl rfl (by decide +kernel) (.on rfl rfl Qt.move) rfl ?_
         refine na ?_
         exact AWA.use (by decide +kernel) (by decide +kernel) (Weak.sim (by repeat (first | exact trivial | refine ⟨rfl, ?_⟩ | refine ⟨⟨_, rfl, T.sim_refl _⟩, ?_⟩ | refine ⟨⟨rfl, rfl⟩, ?_⟩)) rfl rfl) K5_9
      ·refine AWA.one 6 [] [] (by decide +kernel) rfl rfl rfl (by decide +kernel) (by decide +kernel) (by decide +kernel) (Stp.buildSlice rfl (by decide) (by decide) rfl (by decide) rfl rfl rfl (nodup_of rfl)) ?_
       refine na ?_
       refine AWA.take 7 rfl rfl rfl (by decide +kernel) (.on rfl rfl (Qt.build rfl)) ?_
       refine na ?_
       exact AWA.use (by decide +kernel) (by decide +kernel) Weak.refl K5_10
     ·refine AWA.one 5 [] [4] (by decide +kernel) rfl rfl rfl (by decide +kernel) (by decide +kernel) (by decide +kernel) (Stp.buildSlice rfl (by decide) (by decide) rfl (by decide) rfl rfl rfl (nodup_of rfl)) ?_
      refine na ?_
      refine AWA.take 7 rfl rfl rfl (by decide +kernel) (.on rfl rfl (Qt.build rfl)) ?_
      refine na ?_
      exact AWA.use (by decide +kernel) (by decide +kernel) (Weak.sim (by repeat (first | exact trivial | refine ⟨rfl, ?_⟩ | refine ⟨⟨_, rfl, T.sim_refl _⟩, ?_⟩ | refine ⟨⟨rfl, rfl⟩, ?_⟩)) rfl rfl) K5_10
    ·refine AWA.one 3 [] [2] (by decide +kernel) rfl rfl rfl (by decide +kernel) (by decide +kernel) (by decide +kernel) (Stp.buildSlice rfl (by decide) (by decide) rfl (by decide) rfl rfl rfl (nodup_of rfl)) ?_
     refine na ?_
     refine AWA.take 7 rfl rfl rfl (by decide +kernel) (.on rfl rfl (Qt.build rfl)) ?_
     refine na ?_
     exact AWA.use (by decide +kernel) (by decide +kernel) (Weak.sim (by repeat (first | exact trivial | refine ⟨rfl, ?_⟩ | refine ⟨⟨_, rfl, T.sim_refl _⟩, ?_⟩ | refine ⟨⟨rfl, rfl⟩, ?_⟩)) rfl rfl) K5_10
   ·refine AWA.one 1 [] [0] (by decide +kernel) rfl rfl rfl (by decide +kernel) (by decide +kernel) (by decide +kernel) (Stp.callR rfl (by decide) Try.call47 rfl rfl (cloneProgs_con l hw) (nodup_of rfl) rfl rfl) ?_
    refine na ?_
    refine AWA.take 7 rfl rfl rfl (by decide +kernel) (.on rfl rfl (Qt.build rfl)) ?_
    refine na ?_
    exact AWA.use (by decide +kernel) (by decide +kernel) (Weak.sim (by repeat (first | exact trivial | refine ⟨rfl, ?_⟩ | refine ⟨⟨_, rfl, T.sim_refl _⟩, ?_⟩ | refine ⟨⟨rfl, rfl⟩, ?_⟩)) rfl rfl) K5_10
  ·refine AWA.one 8 [] [7, 6, 5, 4, 3, 2, 1, 0] (by decide +kernel) rfl rfl rfl (by decide +kernel) (by decide +kernel) (by decide +kernel) (by first | exact Stp.storeA rfl rfl rfl rfl (by decide) rfl | exact Stp.store rfl rfl (by simp) rfl rfl rfl (by decide) rfl) ?_
   refine na ?_
   refine AWA.take 9 rfl rfl rfl (by decide +kernel) (.on rfl rfl Qt.assign) ?_
   refine nz ?_
   refine AW.weak (Weak.hoist 2 5 905 rfl (by decide) rfl rfl rfl) ?_
   refine AW.rep 905 (tr ([] : List DPipe)) rfl sim_nil ?_
   refine AW.weak (Weak.hoist 2 6 906 rfl (by decide) rfl rfl rfl) ?_
   refine AW.rep 906 (tr ([] : List DFile)) rfl sim_nil ?_
   refine AW.weak (Weak.hoist 2 8 908 rfl (by decide) rfl rfl rfl) ?_
   refine AW.rep 908 (tr ([] : List Int)) rfl sim_nil ?_
   refine AW.rep 28 (tr [(⟨1, 0, 1, 0, ⟨0, [0, 0, 0, 0]⟩, [0, 0, 0, 0], [0, 0, -1, -1], 0, 0⟩ : DProc)]) rfl (sim_one (fun c hc => match c, hc with | 0, _ => T.sim_refl _ | 1, _ => T.sim_refl _ | 2, _ => T.sim_refl _ | 3, _ => T.sim_refl _ | 4, _ => T.sim_refl _ | 5, _ => T.sim_refl _ | 6, _ => T.sim_refl _ | 7, _ => T.sim_refl _ | 8, _ => T.sim_refl _ | 9, _ => T.sim_refl _ | c + 10, hc => absurd hc (by simp only [En.n]; omega))) ?_
   refine AW.rep 30 (tr [(⟨0, 1, 0, 0, 2⟩ : DOpen)]) rfl (sim_one (fun c hc => match c, hc with | 0, _ => T.sim_refl _ | 1, _ => T.sim_refl _ | 2, _ => T.sim_refl _ | 3, _ => T.sim_refl _ | 4, _ => T.sim_refl _ | c + 5, hc => absurd hc (by simp only [En.n]; omega))) ?_
   refine AW.rep 31 (tr [(1 : Int)]) rfl (sim_one (fun c hc => match c, hc with | 0, _ => rfl | c + 1, hc => absurd hc (by simp only [En.n]; omega))) ?_
   refine AW.ret (endQ_ret (.cons (.cellG 2 45 rfl rfl rfl ag45 sz45 (by decide)) (.cons (.tmp 3) .nil)) ?_)
   have hb : progsOk l = true := by first | (simp only [progsOk]; grind) | grind
   rw [show bootU l = _ from if_pos hb, hb]
   refine ⟨fun i => if i = 0 then 26 else if i = 1 then 28 else if i = 2 then 30 else if i = 3 then 905 else if i = 4 then 906 else if i = 5 then 31 else 908, rfl, nodup_of rfl, ?_⟩
   intro r hr
   simp only [List.mem_cons, List.not_mem_nil, or_false] at hr
   rcases hr with rfl | rfl | rfl | rfl | rfl | rfl | rfl <;> exact ⟨by simp, rootL_mem rfl⟩
end Go.Proofs.Ytfbefcmeghpalaa.VM
