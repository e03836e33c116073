/- Contracts. No conditions. -/
import Derived.Test.YtekcnnngjoonbaaGreatCN8
import Derived.Test.YtekcnnngjoonbaaGreatCJEP
import Derived.Test.YtekcnnngjoonbaaGreatCJEO
import Derived.Test.YtekcnnngjoonbaaGreatCJEK
import Derived.Test.YtekcnnngjoonbaaGreatCJEF
set_option linter.all false
set_option maxHeartbeats 8000000
set_option maxRecDepth 10000
namespace Go.Proofs.YtekcnnngjoonbaaGreat.VM
open Go Go.RowKit Go.Proofs
def pmK (a : DNodes) (k : Nat) : List DProc := (a.Procs.take k).map (procN a)
def pkK (a : DNodes) (k : Nat) : List DPipe := (a.Pipes.take k).map pipeN
section
variable {a : DNodes} {k : Nat}
theorem pmK_next (h : k < a.Procs.length) : pmK a (k + 1) = pmK a k ++ [procN a (a.Procs.getD k En.dflt)] := by rw [pmK, take_snocG En.dflt h, List.map_append]; rfl
theorem pkK_next (h : k < a.Pipes.length) : pkK a (k + 1) = pkK a k ++ [pipeN (a.Pipes.getD k En.dflt)] := by rw [pkK, take_snocG En.dflt h, List.map_append]; rfl
theorem pmK_len : (pmK a k).length ≤ k := by rw [pmK, List.length_map, List.length_take]; omega
theorem pkK_len : (pkK a k).length ≤ k := by rw [pkK, List.length_map, List.length_take]; omega
theorem rev_bd {l : List Int} (h : ∀ k, k < l.length → 0 ≤ l.getD k En.dflt ∧ l.getD k En.dflt ≤ 15) : ∀ k, k < l.reverse.length → 0 ≤ l.reverse.getD k En.dflt ∧ l.reverse.getD k En.dflt ≤ 15 := fun k hk => by
 rw [List.length_reverse] at hk
 rw [rev_get hk]
 exact h _ (by omega)
end
theorem AbsBI_con (a : DNodes) (hw : Mk.wt a ≤ 1048576) : Con Tryz.prog 9 [.g [.v (iv a.Next), .v (iv a.Tick), .h base [], .h (base + 1) [], .h (base + 2) [], .h (base + 3) [], .h (base + 4) [], .h (base + 5) [], .h (base + 6) [], .h (base + 7) [], .h (base + 8) []]] [.rt base .ro (tr a.Progs), .rt (base + 1) .ro (tr a.Procs), .rt (base + 2) .ro (tr a.Ram), .rt (base + 3) .ro (tr a.Heap.Free), .rt (base + 4) .ro (tr a.Opens), .rt (base + 5) .ro (tr a.Pipes), .rt (base + 6) .ro (tr a.Files), .rt (base + 7) .ro (tr a.Ready), .rt (base + 8) .ro (tr a.Out)] (Ret (.g [.v (iv (absB a).Next), .v (iv (absB a).Tick), .h 0 [], .h 1 [], .h 2 [], .h 3 [], .h 4 [], .h 5 [], .h 6 []]) [(0, .row, tr (absB a).Progs), (1, .row, tr (absB a).Procs), (2, .row, tr (absB a).Opens), (3, .row, tr (absB a).Pipes), (4, .row, tr (absB a).Files), (5, .row, tr (absB a).Ready), (6, .row, tr (absB a).Out)]) := by
 refine ob Tryz.func9 Tryz.ntmps9 ?_
 refine AW.len (base + 1) [] rfl (by simp [Okp]) rfl (fun hl1 => ?_)
 refine AW.len (base + 5) [] rfl (by simp [Okp]) rfl (fun hl5 => ?_)
 refine sr ?_
 refine bx ?_
 refine nm ?_
 refine sp sA ?_
 refine nl ?_
 refine sr2 ?_
 refine qG ag46 sz46 ?_
 refine nm ?_
 refine cv Tryz.call35 rfl rfl (shapeBI_con a) ?_
 refine nm ?_
 refine qq (Qt.notB rfl) ?_
 refine nc (fun c1 => ?_) fun c1 => ?_
 ·have k1 := c1
  try simp only [cnd] at c1
  have hsh : shapeB a = false := by first | exact c1 | simpa using k1
  refine sr ?_
  refine qq (Qt.build rfl) ?_
  refine ss ?_
  refine nl ?_
  refine AW.weak (Weak.hoist 2 2 902 rfl (by decide) rfl rfl rfl) ?_
  refine AW.rep 902 (tr ([] : List (List DIns))) rfl sim_nil ?_
  refine AW.weak (Weak.hoist 2 3 903 rfl (by decide) rfl rfl rfl) ?_
  refine AW.rep 903 (tr ([] : List DProc)) rfl sim_nil ?_
  refine AW.weak (Weak.hoist 2 4 904 rfl (by decide) rfl rfl rfl) ?_
  refine AW.rep 904 (tr ([] : List DOpen)) rfl sim_nil ?_
  refine AW.weak (Weak.hoist 2 5 905 rfl (by decide) rfl rfl rfl) ?_
  refine AW.rep 905 (tr ([] : List DPipe)) rfl sim_nil ?_
  refine AW.weak (Weak.hoist 2 6 906 rfl (by decide) rfl rfl rfl) ?_
  refine AW.rep 906 (tr ([] : List DFile)) rfl sim_nil ?_
  refine AW.weak (Weak.hoist 2 7 907 rfl (by decide) rfl rfl rfl) ?_
  refine AW.rep 907 (tr ([] : List Int)) rfl sim_nil ?_
  refine AW.weak (Weak.hoist 2 8 908 rfl (by decide) rfl rfl rfl) ?_
  refine AW.rep 908 (tr ([] : List Int)) rfl sim_nil ?_
  refine AW.ret (endQ_ret (.cons (.cellG 2 40 rfl rfl rfl ag40 sz40 (by decide)) .nil) ?_)
  rw [absB_f hsh]
  refine ⟨fun i => if i = 0 then 902 else if i = 1 then 903 else if i = 2 then 904 else if i = 3 then 905 else if i = 4 then 906 else if i = 5 then 907 else 908, rfl, nodup_of rfl, ?_⟩
  intro r hr
  simp only [List.mem_cons, List.not_mem_nil, or_false] at hr
  rcases hr with rfl | rfl | rfl | rfl | rfl | rfl | rfl <;> exact ⟨by simp, rootL_mem rfl⟩
 have k1 := c1
 try simp only [cnd] at c1
 have hsh : shapeB a = true := by first | exact c1 | simpa using k1
 have hS := shpB hsh
 have hwu : Mk.wt a.Progs + Mk.wt a.Procs + Mk.wt a.Ram + Mk.wt a.Heap.Free + Mk.wt a.Opens + Mk.wt a.Pipes + Mk.wt a.Files + Mk.wt a.Ready + Mk.wt a.Out ≤ 1048576 := hw
 have hv0 := wt_len a.Procs
 have hv1 := wt_len a.Opens
 have hv2 := wt_len a.Pipes
 have hv3 := wt_len a.Files
 have hv4 := wt_ints a.Ready
 have hv5 := wt_ints a.Out
 refine jd (AW.seq ?_)
 refine AW.draw [0, 1, 2, 3, 4, 5, 7, 8, 10, 11, 13, 14, 16, 17, 19] rfl (by decide +kernel) ?_
 refine tk 0 rfl (fA fl46_0) ?_
 refine na ?_
 refine tk 1 rfl (Qt.load1 rfl rfl rfl ag3) ?_
 refine tk 2 rfl (fA fl46_1) ?_
 refine tk 3 rfl (Qt.load1 rfl rfl rfl ag3) ?_
 refine na ?_
 refine tk 4 rfl (fA fl46_2) ?_
 refine tk 5 rfl (Qt.load1 rfl rfl rfl ag34) ?_
 refine tk 7 rfl (fA fl46_6) ?_
 refine na ?_
 refine tk 8 rfl (Qt.load1 rfl rfl rfl ag36) ?_
 refine tk 10 rfl (fA fl46_8) ?_
 refine tk 11 rfl (Qt.load1 rfl rfl rfl ag38) ?_
 refine na ?_
 refine tk 13 rfl (fA fl46_9) ?_
 refine tk 14 rfl (Qt.load1 rfl rfl rfl ag24) ?_
 refine tk 16 rfl (fA fl46_10) ?_
 refine na ?_
 refine tk 17 rfl (Qt.load1 rfl rfl rfl ag24) ?_
 apply AWA.cutS #[true, true, true, true, true, true, true, true, true, true, true, true, true, true, true, true, true, true, true, true, true, false] [0, 1, 2, 3, 19]
 ·intro K3_4
  apply AWA.cutS #[true, true, true, true, true, true, true, true, true, true, true, true, true, true, true, true, true, true, false, false, true, false] [0, 1, 2, 3, 16, 17]
  ·intro K3_3
   apply AWA.cutS #[true, true, true, true, true, true, true, true, true, true, true, true, true, true, true, false, true, true, false, false, true, false] [0, 1, 2, 3, 13, 14, 16, 17]
   ·intro K3_2
    apply AWA.cutS #[true, true, true, true, true, true, true, true, true, true, true, true, false, true, true, false, true, true, false, false, true, false] [0, 1, 2, 3, 10, 11, 13, 14, 16, 17]
    ·intro K3_1
     apply AWA.cutS #[true, true, true, true, true, true, true, true, true, false, true, true, false, true, true, false, true, true, false, false, true, false] [0, 1, 2, 3, 7, 8, 10, 11, 13, 14, 16, 17]
     ·intro K3_0
      refine AWA.anyL [6, 20] (by decide +kernel) rfl ⟨?_, ?_, trivial⟩
      ·refine AWA.arm 6 [0, 1, 2, 3, 7, 8, 10, 11, 13, 14, 16, 17] [5, 4] rfl rfl rfl (by decide +kernel) (by decide +kernel) (by decide +kernel) (Stp.callR rfl (by decide) Tryz.call36 rfl rfl (cloneProgs_con _ (by omega)) (nodup_of rfl) rfl rfl) ?_
       refine na ?_
       refine ae rfl (fA fl46_0) ?_
       refine ae rfl (Qt.load1 rfl rfl rfl ag3) ?_
       refine ae rfl (fA fl46_1) ?_
       refine na ?_
       refine ae rfl (Qt.load1 rfl rfl rfl ag3) ?_
       refine ae rfl (fA fl46_6) ?_
       refine ae rfl (Qt.load1 rfl rfl rfl ag36) ?_
       refine na ?_
       refine ae rfl (fA fl46_8) ?_
       refine ae rfl (Qt.load1 rfl rfl rfl ag38) ?_
       refine ae rfl (fA fl46_9) ?_
       refine na ?_
       refine ae rfl (Qt.load1 rfl rfl rfl ag24) ?_
       refine ae rfl (fA fl46_10) ?_
       refine ae rfl (Qt.load1 rfl rfl rfl ag24) ?_
       refine na ?_
       refine AWA.anyL [9, 20] (by decide +kernel) rfl ⟨?_, ?_, trivial⟩
       ·refine AWA.arm 9 [0, 1, 2, 3, 10, 11, 13, 14, 16, 17] [8, 6, 7, 5, 4] rfl rfl rfl (by decide +kernel) (by decide +kernel) (by decide +kernel) (Stp.callR rfl (by decide) Tryz.call37 rfl rfl (cloneO_con _ (by omega)) (nodup_of rfl) rfl rfl) ?_
        refine na ?_
        refine ae rfl (fA fl46_0) ?_
        refine ae rfl (Qt.load1 rfl rfl rfl ag3) ?_
        refine ae rfl (fA fl46_1) ?_
        refine na ?_
        refine ae rfl (Qt.load1 rfl rfl rfl ag3) ?_
        refine ae rfl (fA fl46_8) ?_
        refine ae rfl (Qt.load1 rfl rfl rfl ag38) ?_
        refine na ?_
        refine ae rfl (fA fl46_9) ?_
        refine ae rfl (Qt.load1 rfl rfl rfl ag24) ?_
        refine ae rfl (fA fl46_10) ?_
        refine na ?_
        refine ae rfl (Qt.load1 rfl rfl rfl ag24) ?_
        refine na ?_
        refine AWA.anyL [12, 20] (by decide +kernel) rfl ⟨?_, ?_, trivial⟩
        ·refine AWA.arm 12 [0, 1, 2, 3, 13, 14, 16, 17] [11, 9, 10, 8, 6, 7, 5, 4] rfl rfl rfl (by decide +kernel) (by decide +kernel) (by decide +kernel) (Stp.callR rfl (by decide) Tryz.call38 rfl rfl (cloneFiles_con _ (by omega)) (nodup_of rfl) rfl rfl) ?_
         refine na ?_
         refine ae rfl (fA fl46_0) ?_
         refine ae rfl (Qt.load1 rfl rfl rfl ag3) ?_
         refine ae rfl (fA fl46_1) ?_
         refine na ?_
         refine ae rfl (Qt.load1 rfl rfl rfl ag3) ?_
         refine ae rfl (fA fl46_9) ?_
         refine ae rfl (Qt.load1 rfl rfl rfl ag24) ?_
         refine na ?_
         refine ae rfl (fA fl46_10) ?_
         refine ae rfl (Qt.load1 rfl rfl rfl ag24) ?_
         refine na ?_
         refine AWA.anyL [15, 20] (by decide +kernel) rfl ⟨?_, ?_, trivial⟩
         ·refine AWA.arm 15 [0, 1, 2, 3, 16, 17] [14, 12, 13, 11, 9, 10, 8, 6, 7, 5, 4] rfl rfl rfl (by decide +kernel) (by decide +kernel) (by decide +kernel) (Stp.callR rfl (by decide) Tryz.call39 rfl rfl (cloneI_con _ (by omega)) (nodup_of rfl) rfl rfl) ?_
          refine na ?_
          refine ae rfl (fA fl46_0) ?_
          refine ae rfl (Qt.load1 rfl rfl rfl ag3) ?_
          refine ae rfl (fA fl46_1) ?_
          refine na ?_
          refine ae rfl (Qt.load1 rfl rfl rfl ag3) ?_
          refine ae rfl (fA fl46_10) ?_
          refine ae rfl (Qt.load1 rfl rfl rfl ag24) ?_
          refine na ?_
          refine AWA.anyL [18, 20] (by decide +kernel) rfl ⟨?_, ?_, trivial⟩
          ·refine AWA.arm 18 [0, 1, 2, 3] [17, 15, 16, 14, 12, 13, 11, 9, 10, 8, 6, 7, 5, 4] rfl rfl rfl (by decide +kernel) (by decide +kernel) (by decide +kernel) (Stp.callR rfl (by decide) Tryz.call39 rfl rfl (cloneI_con _ (by omega)) (nodup_of rfl) rfl rfl) ?_
           refine na ?_
           refine ae rfl (fA fl46_0) ?_
           refine ae rfl (Qt.load1 rfl rfl rfl ag3) ?_
           refine ae rfl (fA fl46_1) ?_
           refine na ?_
           refine ae rfl (Qt.load1 rfl rfl rfl ag3) ?_
           refine na ?_
           refine AWA.take 19 rfl rfl rfl (by decide +kernel) (.on rfl rfl (Qt.build rfl)) ?_
           refine AWA.one 20 [0, 1, 2, 3, 19] [] (by decide +kernel) rfl rfl rfl (by decide +kernel) (by decide +kernel) (by decide +kernel) sA ?_
           refine na ?_
           refine ae rfl (fA fl46_0) ?_
           refine ae rfl (Qt.load1 rfl rfl rfl ag3) ?_
           refine ae rfl (fA fl46_1) ?_
           refine na ?_
           refine ae rfl (Qt.load1 rfl rfl rfl ag3) ?_
           refine ae rfl (Qt.build rfl) ?_
           refine na ?_
           exact auR K3_4
          ·refine AWA.arm 20 [0, 1, 2, 3, 16, 17] [] rfl rfl rfl (by decide +kernel) (by decide +kernel) (by decide +kernel) sA ?_
           refine na ?_
           refine ae rfl (fA fl46_0) ?_
           refine ae rfl (Qt.load1 rfl rfl rfl ag3) ?_
           refine ae rfl (fA fl46_1) ?_
           refine na ?_
           refine ae rfl (Qt.load1 rfl rfl rfl ag3) ?_
           refine ae rfl (fA fl46_10) ?_
           refine ae rfl (Qt.load1 rfl rfl rfl ag24) ?_
           refine na ?_
           exact auR K3_3
         ·refine AWA.arm 20 [0, 1, 2, 3, 13, 14, 16, 17] [] rfl rfl rfl (by decide +kernel) (by decide +kernel) (by decide +kernel) sA ?_
          refine na ?_
          refine ae rfl (fA fl46_0) ?_
          refine ae rfl (Qt.load1 rfl rfl rfl ag3) ?_
          refine ae rfl (fA fl46_1) ?_
          refine na ?_
          refine ae rfl (Qt.load1 rfl rfl rfl ag3) ?_
          refine ae rfl (fA fl46_9) ?_
          refine ae rfl (Qt.load1 rfl rfl rfl ag24) ?_
          refine na ?_
          refine ae rfl (fA fl46_10) ?_
          refine ae rfl (Qt.load1 rfl rfl rfl ag24) ?_
          refine na ?_
          exact auR K3_2
        ·refine AWA.arm 20 [0, 1, 2, 3, 10, 11, 13, 14, 16, 17] [] rfl rfl rfl (by decide +kernel) (by decide +kernel) (by decide +kernel) sA ?_
         refine na ?_
         refine ae rfl (fA fl46_0) ?_
         refine ae rfl (Qt.load1 rfl rfl rfl ag3) ?_
         refine ae rfl (fA fl46_1) ?_
         refine na ?_
         refine ae rfl (Qt.load1 rfl rfl rfl ag3) ?_
         refine ae rfl (fA fl46_8) ?_
         refine ae rfl (Qt.load1 rfl rfl rfl ag38) ?_
         refine na ?_
         refine ae rfl (fA fl46_9) ?_
         refine ae rfl (Qt.load1 rfl rfl rfl ag24) ?_
         refine ae rfl (fA fl46_10) ?_
         refine na ?_
         refine ae rfl (Qt.load1 rfl rfl rfl ag24) ?_
         refine na ?_
         exact auR K3_1
       ·refine AWA.arm 20 [0, 1, 2, 3, 7, 8, 10, 11, 13, 14, 16, 17] [] rfl rfl rfl (by decide +kernel) (by decide +kernel) (by decide +kernel) sA ?_
        refine na ?_
        refine ae rfl (fA fl46_0) ?_
        refine ae rfl (Qt.load1 rfl rfl rfl ag3) ?_
        refine ae rfl (fA fl46_1) ?_
        refine na ?_
        refine ae rfl (Qt.load1 rfl rfl rfl ag3) ?_
        refine ae rfl (fA fl46_6) ?_
        refine ae rfl (Qt.load1 rfl rfl rfl ag36) ?_
        refine na ?_
        refine ae rfl (fA fl46_8) ?_
        refine ae rfl (Qt.load1 rfl rfl rfl ag38) ?_
        refine ae rfl (fA fl46_9) ?_
        refine na ?_
        refine ae rfl (Qt.load1 rfl rfl rfl ag24) ?_
        refine ae rfl (fA fl46_10) ?_
        refine ae rfl (Qt.load1 rfl rfl rfl ag24) ?_
        refine na ?_
        exact auR K3_0
      ·refine AWA.arm 20 [0, 1, 2, 3, 4, 5, 7, 8, 10, 11, 13, 14, 16, 17] [] rfl rfl rfl (by decide +kernel) (by decide +kernel) (by decide +kernel) sA ?_
       refine na ?_
       refine ae rfl (fA fl46_0) ?_
       refine ae rfl (Qt.load1 rfl rfl rfl ag3) ?_
       refine ae rfl (fA fl46_1) ?_
       refine na ?_
       refine ae rfl (Qt.load1 rfl rfl rfl ag3) ?_
       refine ae rfl (fA fl46_2) ?_
       refine ae rfl (Qt.load1 rfl rfl rfl ag34) ?_
       refine na ?_
       refine ae rfl (fA fl46_6) ?_
       refine ae rfl (Qt.load1 rfl rfl rfl ag36) ?_
       refine ae rfl (fA fl46_8) ?_
       refine na ?_
       refine ae rfl (Qt.load1 rfl rfl rfl ag38) ?_
       refine ae rfl (fA fl46_9) ?_
       refine ae rfl (Qt.load1 rfl rfl rfl ag24) ?_
       refine na ?_
       refine ae rfl (fA fl46_10) ?_
       refine ae rfl (Qt.load1 rfl rfl rfl ag24) ?_
       refine na ?_
       refine AWA.one 6 [0, 1, 2, 3, 7, 8, 10, 11, 13, 14, 16, 17] [5, 4] (by decide +kernel) rfl rfl rfl (by decide +kernel) (by decide +kernel) (by decide +kernel) (Stp.callR rfl (by decide) Tryz.call36 rfl rfl (cloneProgs_con _ (by omega)) (nodup_of rfl) rfl rfl) ?_
       refine na ?_
       refine ae rfl (fA fl46_0) ?_
       refine ae rfl (Qt.load1 rfl rfl rfl ag3) ?_
       refine ae rfl (fA fl46_1) ?_
       refine na ?_
       refine ae rfl (Qt.load1 rfl rfl rfl ag3) ?_
       refine ae rfl (fA fl46_6) ?_
       refine ae rfl (Qt.load1 rfl rfl rfl ag36) ?_
       refine na ?_
       refine ae rfl (fA fl46_8) ?_
       refine ae rfl (Qt.load1 rfl rfl rfl ag38) ?_
       refine ae rfl (fA fl46_9) ?_
       refine na ?_
       refine ae rfl (Qt.load1 rfl rfl rfl ag24) ?_
       refine ae rfl (fA fl46_10) ?_
       refine ae rfl (Qt.load1 rfl rfl rfl ag24) ?_
       refine na ?_
       exact auP K3_0
     ·refine AWA.one 9 [0, 1, 2, 3, 10, 11, 13, 14, 16, 17] [8, 6, 7, 5, 4] (by decide +kernel) rfl rfl rfl (by decide +kernel) (by decide +kernel) (by decide +kernel) (Stp.callR rfl (by decide) Tryz.call37 rfl rfl (cloneO_con _ (by omega)) (nodup_of rfl) rfl rfl) ?_
      refine na ?_
      refine ae rfl (fA fl46_0) ?_
      refine ae rfl (Qt.load1 rfl rfl rfl ag3) ?_
      refine ae rfl (fA fl46_1) ?_
      refine na ?_
      refine ae rfl (Qt.load1 rfl rfl rfl ag3) ?_
      refine ae rfl (fA fl46_8) ?_
      refine ae rfl (Qt.load1 rfl rfl rfl ag38) ?_
      refine na ?_
      refine ae rfl (fA fl46_9) ?_
      refine ae rfl (Qt.load1 rfl rfl rfl ag24) ?_
      refine ae rfl (fA fl46_10) ?_
      refine na ?_
      refine ae rfl (Qt.load1 rfl rfl rfl ag24) ?_
      refine na ?_
      exact auP K3_1
    ·refine AWA.one 12 [0, 1, 2, 3, 13, 14, 16, 17] [11, 9, 10, 8, 6, 7, 5, 4] (by decide +kernel) rfl rfl rfl (by decide +kernel) (by decide +kernel) (by decide +kernel) (Stp.callR rfl (by decide) Tryz.call38 rfl rfl (cloneFiles_con _ (by omega)) (nodup_of rfl) rfl rfl) ?_
     refine na ?_
     refine ae rfl (fA fl46_0) ?_
     refine ae rfl (Qt.load1 rfl rfl rfl ag3) ?_
     refine ae rfl (fA fl46_1) ?_
     refine na ?_
     refine ae rfl (Qt.load1 rfl rfl rfl ag3) ?_
     refine ae rfl (fA fl46_9) ?_
     refine ae rfl (Qt.load1 rfl rfl rfl ag24) ?_
     refine na ?_
     refine ae rfl (fA fl46_10) ?_
     refine ae rfl (Qt.load1 rfl rfl rfl ag24) ?_
     refine na ?_
     exact auP K3_2
   ·refine AWA.one 15 [0, 1, 2, 3, 16, 17] [14, 12, 13, 11, 9, 10, 8, 6, 7, 5, 4] (by decide +kernel) rfl rfl rfl (by decide +kernel) (by decide +kernel) (by decide +kernel) (Stp.callR rfl (by decide) Tryz.call39 rfl rfl (cloneI_con _ (by omega)) (nodup_of rfl) rfl rfl) ?_
    refine na ?_
    refine ae rfl (fA fl46_0) ?_
    refine ae rfl (Qt.load1 rfl rfl rfl ag3) ?_
    refine ae rfl (fA fl46_1) ?_
    refine na ?_
    refine ae rfl (Qt.load1 rfl rfl rfl ag3) ?_
    refine ae rfl (fA fl46_10) ?_
    refine ae rfl (Qt.load1 rfl rfl rfl ag24) ?_
    refine na ?_
    exact auP K3_3
  ·refine AWA.one 18 [0, 1, 2, 3] [17, 15, 16, 14, 12, 13, 11, 9, 10, 8, 6, 7, 5, 4] (by decide +kernel) rfl rfl rfl (by decide +kernel) (by decide +kernel) (by decide +kernel) (Stp.callR rfl (by decide) Tryz.call39 rfl rfl (cloneI_con _ (by omega)) (nodup_of rfl) rfl rfl) ?_
   refine na ?_
   refine ae rfl (fA fl46_0) ?_
   refine ae rfl (Qt.load1 rfl rfl rfl ag3) ?_
   refine ae rfl (fA fl46_1) ?_
   refine na ?_
   refine ae rfl (Qt.load1 rfl rfl rfl ag3) ?_
   refine na ?_
   refine AWA.take 19 rfl rfl rfl (by decide +kernel) (.on rfl rfl (Qt.build rfl)) ?_
   refine na ?_
   exact auP K3_4
 ·refine AWA.one 21 [] [20, 19, 18, 17, 16, 15, 14, 13, 12, 11, 10, 9, 8, 7, 6, 5, 4, 3, 2, 1, 0] (by decide +kernel) rfl rfl rfl (by decide +kernel) (by decide +kernel) (by decide +kernel) (by first | exact Stp.storeA rfl rfl rfl rfl (by decide) rfl | exact Stp.store rfl rfl (by simp) rfl rfl rfl (by decide) rfl) ?_
  refine na ?_
  refine nz ?_
  refine sr2 ?_
  refine qq (fA fl46_3) ?_
  refine ql ag42 ?_
  refine nm ?_
  refine qh sl42 ?_
  refine qm ?_
  refine nl ?_
  refine AW.block ?_
  refine AW.weak (Weak.hoist 3 3 67 rfl (by decide) rfl rfl rfl) ?_
  refine AW.weak (Weak.hoist 3 5 86 rfl (by decide) rfl rfl rfl) ?_
  refine AW.weak (L' := (.sl 35 (.v (iv (0 : Nat))) :: .sl 2 (.p 2 [] 9 0 0) :: .sl 3 (.p 3 [] 9 0 0) :: .rt 1 .box (T.s 11 1 fun k c => ([(T.v (iv a.Next), none), (T.v (iv a.Tick), none), (T.j, none), (T.j, none), (T.j, none), (T.j, none), (T.j, none), (T.j, none), (T.j, none), (T.j, none), (T.j, none)].getD (k * 11 + c) (T.j, none)).fst) :: .al 1 2 (.h base []) :: .al 1 3 (.h (base + 1) []) :: .al 1 4 (.h (base + 2) []) :: .al 1 5 (.h (base + 3) []) :: .al 1 6 (.h (base + 4) []) :: .al 1 7 (.h (base + 5) []) :: .al 1 8 (.h (base + 6) []) :: .al 1 9 (.h (base + 7) []) :: .al 1 10 (.h (base + 8) []) :: .rt base .ro (tr a.Progs) :: .rt (base + 1) .ro (tr a.Procs) :: .rt (base + 2) .ro (tr a.Ram) :: .rt (base + 3) .ro (tr a.Heap.Free) :: .rt (base + 4) .ro (tr a.Opens) :: .rt (base + 5) .ro (tr a.Pipes) :: .rt (base + 6) .ro (tr a.Files) :: .rt (base + 7) .ro (tr a.Ready) :: .rt (base + 8) .ro (tr a.Out) :: .sl 1 (.p 1 [] 11 0 0) :: .sl 33 (.h (base + 1) []) :: .sl 34 (.v (iv a.Procs.length)) :: .rt 2 .box (T.s 9 1 fun _ c => [T.v (iv 0), T.v (iv 0), T.s 1 0 fun _ _ => T.j, T.s 10 0 fun _ _ => T.j, T.s 5 0 fun _ _ => T.j, T.s 2 0 fun _ _ => T.j, T.s 2 0 fun _ _ => T.j, T.s 1 0 fun _ _ => T.j, T.s 1 0 fun _ _ => T.j].getD c T.j) :: .rt 3 .box (T.s 9 1 fun _ c => [T.v (iv a.Next), T.v (iv a.Tick), T.j, T.j, T.j, T.j, T.j, T.j, T.j].getD c T.j) :: .al 3 2 (.h 18 []) :: .al 3 3 (.h 67 []) :: .al 3 4 (.h 21 []) :: .al 3 5 (.h 86 []) :: .al 3 6 (.h 24 []) :: .al 3 7 (.h 27 []) :: .al 3 8 (.h 30 []) :: .rt 18 .row (tr a.Progs) :: .rt 67 .row (tr (pmK a (0 : Nat))) :: .rt 21 .row (tr a.Opens) :: .rt 86 .row (tr (pkK a 0)) :: .rt 24 .row (tr a.Files) :: .rt 27 .row (tr a.Ready) :: .rt 30 .row (tr a.Out) :: [])) (Weak.sim ⟨rfl, rfl, rfl, Rf rfl, ⟨rfl, rfl⟩, ⟨rfl, rfl⟩, ⟨rfl, rfl⟩, ⟨rfl, rfl⟩, ⟨rfl, rfl⟩, ⟨rfl, rfl⟩, ⟨rfl, rfl⟩, ⟨rfl, rfl⟩, ⟨rfl, rfl⟩, Rf rfl, Rf rfl, Rf rfl, Rf rfl, Rf rfl, Rf rfl, Rf rfl, Rf rfl, Rf rfl, rfl, rfl, rfl, ⟨_, rfl, (sc_sim (n := 9) (fun c hc => match c, hc with | 0, _ => tsr | 1, _ => tsr | 2, _ => tsr | 3, _ => tsr | 4, _ => tsr | 5, _ => tsr | 6, _ => tsr | 7, _ => tsr | 8, _ => tsr | c + 9, hc => absurd hc (by omega)))⟩, ⟨_, rfl, (sc_sim (n := 9) (fun c hc => match c, hc with | 0, _ => tsr | 1, _ => tsr | 2, _ => tsr | 3, _ => tsr | 4, _ => tsr | 5, _ => tsr | 6, _ => tsr | 7, _ => tsr | 8, _ => tsr | c + 9, hc => absurd hc (by omega)))⟩, ⟨rfl, rfl⟩, ⟨rfl, rfl⟩, ⟨rfl, rfl⟩, ⟨rfl, rfl⟩, ⟨rfl, rfl⟩, ⟨rfl, rfl⟩, ⟨rfl, rfl⟩, Rf rfl, ⟨_, rfl, sim_nil⟩, Rf rfl, ⟨_, rfl, sim_nil⟩, Rf rfl, Rf rfl, Rf rfl, trivial⟩ rfl rfl) ?_
  refine AW.loop (fun i : KInv a.Procs.length => (.sl 35 (.v (iv i.k)) :: .sl 2 (.p 2 [] 9 0 0) :: .sl 3 (.p 3 [] 9 0 0) :: .rt 1 .box (T.s 11 1 fun k c => ([(T.v (iv a.Next), none), (T.v (iv a.Tick), none), (T.j, none), (T.j, none), (T.j, none), (T.j, none), (T.j, none), (T.j, none), (T.j, none), (T.j, none), (T.j, none)].getD (k * 11 + c) (T.j, none)).fst) :: .al 1 2 (.h base []) :: .al 1 3 (.h (base + 1) []) :: .al 1 4 (.h (base + 2) []) :: .al 1 5 (.h (base + 3) []) :: .al 1 6 (.h (base + 4) []) :: .al 1 7 (.h (base + 5) []) :: .al 1 8 (.h (base + 6) []) :: .al 1 9 (.h (base + 7) []) :: .al 1 10 (.h (base + 8) []) :: .rt base .ro (tr a.Progs) :: .rt (base + 1) .ro (tr a.Procs) :: .rt (base + 2) .ro (tr a.Ram) :: .rt (base + 3) .ro (tr a.Heap.Free) :: .rt (base + 4) .ro (tr a.Opens) :: .rt (base + 5) .ro (tr a.Pipes) :: .rt (base + 6) .ro (tr a.Files) :: .rt (base + 7) .ro (tr a.Ready) :: .rt (base + 8) .ro (tr a.Out) :: .sl 1 (.p 1 [] 11 0 0) :: .sl 33 (.h (base + 1) []) :: .sl 34 (.v (iv a.Procs.length)) :: .rt 2 .box (T.s 9 1 fun _ c => [T.v (iv 0), T.v (iv 0), T.s 1 0 fun _ _ => T.j, T.s 10 0 fun _ _ => T.j, T.s 5 0 fun _ _ => T.j, T.s 2 0 fun _ _ => T.j, T.s 2 0 fun _ _ => T.j, T.s 1 0 fun _ _ => T.j, T.s 1 0 fun _ _ => T.j].getD c T.j) :: .rt 3 .box (T.s 9 1 fun _ c => [T.v (iv a.Next), T.v (iv a.Tick), T.j, T.j, T.j, T.j, T.j, T.j, T.j].getD c T.j) :: .al 3 2 (.h 18 []) :: .al 3 3 (.h 67 []) :: .al 3 4 (.h 21 []) :: .al 3 5 (.h 86 []) :: .al 3 6 (.h 24 []) :: .al 3 7 (.h 27 []) :: .al 3 8 (.h 30 []) :: .rt 18 .row (tr a.Progs) :: .rt 67 .row (tr (pmK a i.k)) :: .rt 21 .row (tr a.Opens) :: .rt 86 .row (tr (pkK a 0)) :: .rt 24 .row (tr a.Files) :: .rt 27 .row (tr a.Ready) :: .rt 30 .row (tr a.Out) :: [])) (fun i => a.Procs.length - i.k) ⟨0, Nat.zero_le _⟩ ?_
  intro i
  have hle := i.le
  have hkl := pmK_len (a := a) (k := i.k)
  refine sr ?_
  refine qb ?_
  refine nl ?_
  refine AW.seq ?_
  refine cd (fun c2 => ?_) fun c2 => ?_
  ·try simp only [cnd] at c2
   have hlt : i.k < a.Procs.length := by omega
   have hik := wt_ge hlt
   have hik2 : Mk.wt (a.Procs.getD i.k En.dflt) = Mk.wt (a.Procs.getD i.k En.dflt).Cpu.Regs + Mk.wt (a.Procs.getD i.k En.dflt).Pages + Mk.wt (a.Procs.getD i.k En.dflt).Fds := rfl
   have hik3 := wt_ints (a.Procs.getD i.k En.dflt).Cpu.Regs
   have hik4 := wt_ints (a.Procs.getD i.k En.dflt).Pages
   have hik5 := wt_ints (a.Procs.getD i.k En.dflt).Fds
   refine jd (AW.seq (AW.block (sr ?_)))
   refine qq (ix sl42 sz77) ?_
   refine nm ?_
   refine qG ag77 sz77 ?_
   refine sp sA ?_
   refine nm ?_
   refine ss ?_
   refine nl ?_
   refine AW.draw [0, 1, 2, 3, 4, 5, 6, 7, 8, 9, 10, 11, 13, 14, 15, 16, 19, 20, 22, 23, 24, 25, 26, 29] rfl (by decide +kernel) ?_
   refine tk 0 rfl (fA fl40_3) ?_
   refine na ?_
   refine tk 1 rfl (Qt.load1 rfl rfl rfl ag35) ?_
   refine tk 2 rfl (fA fl77_0) ?_
   refine tk 3 rfl (Qt.load1 rfl rfl rfl ag3) ?_
   refine na ?_
   refine tk 4 rfl (fA fl77_1) ?_
   refine tk 5 rfl (Qt.load1 rfl rfl rfl ag3) ?_
   refine tk 6 rfl (fA fl77_2) ?_
   refine na ?_
   refine tk 7 rfl (Qt.load1 rfl rfl rfl ag3) ?_
   refine tk 8 rfl (fA fl77_3) ?_
   refine tk 9 rfl (Qt.load1 rfl rfl rfl ag3) ?_
   refine na ?_
   refine tk 10 rfl (fA fl77_4) ?_
   refine tk 11 rfl (Qt.loadG rfl rfl rfl ag75 sz75 (by decide)) ?_
   refine tk 13 rfl (fA fl46_4) ?_
   refine na ?_
   refine tk 14 rfl (Qt.load1 rfl rfl rfl ag24) ?_
   refine tk 15 rfl (fA fl77_5) ?_
   refine tk 16 rfl (Qt.load1 rfl rfl rfl ag24) ?_
   refine na ?_
   refine tk 19 rfl (fA fl77_6) ?_
   refine tk 20 rfl (Qt.load1 rfl rfl rfl ag24) ?_
   refine tk 22 rfl (fA fl77_7) ?_
   refine na ?_
   refine tk 23 rfl (Qt.load1 rfl rfl rfl ag3) ?_
   refine tk 24 rfl (fA fl77_8) ?_
   refine tk 25 rfl (Qt.load1 rfl rfl rfl ag3) ?_
   refine na ?_
   refine a1 12 [0, 1, 2, 3, 4, 5, 6, 7, 8, 9, 13, 14, 15, 16, 19, 20, 22, 23, 24, 25] [11, 10] rfl rfl (Stp.callR rfl (by decide) Tryz.call40 rfl rfl (cloneCpu_con (a.Procs.getD i.k En.dflt).Cpu (by omega)) (nodup_of rfl) rfl rfl) ?_
   refine na ?_
   refine na ?_
   refine ae rfl (fA fl40_3) ?_
   refine na ?_
   refine ae rfl (Qt.load1 rfl rfl rfl ag35) ?_
   refine na ?_
   refine ae rfl (fA fl77_0) ?_
   refine na ?_
   refine ae rfl (Qt.load1 rfl rfl rfl ag3) ?_
   refine na ?_
   refine ae rfl (fA fl77_1) ?_
   refine na ?_
   refine ae rfl (Qt.load1 rfl rfl rfl ag3) ?_
   refine na ?_
   refine ae rfl (fA fl77_2) ?_
   refine na ?_
   refine ae rfl (Qt.load1 rfl rfl rfl ag3) ?_
   refine na ?_
   refine ae rfl (fA fl77_3) ?_
   refine na ?_
   refine ae rfl (Qt.load1 rfl rfl rfl ag3) ?_
   refine na ?_
   refine ae rfl (fA fl46_4) ?_
   refine na ?_
   refine ae rfl (Qt.load1 rfl rfl rfl ag24) ?_
   refine na ?_
   refine ae rfl (fA fl77_5) ?_
   refine na ?_
   refine ae rfl (Qt.load1 rfl rfl rfl ag24) ?_
   refine na ?_
   refine ae rfl (fA fl77_6) ?_
   refine na ?_
   refine ae rfl (Qt.load1 rfl rfl rfl ag24) ?_
   refine na ?_
   refine ae rfl (fA fl77_7) ?_
   refine na ?_
   refine ae rfl (Qt.load1 rfl rfl rfl ag3) ?_
   refine na ?_
   refine ae rfl (fA fl77_8) ?_
   refine na ?_
   refine ae rfl (Qt.load1 rfl rfl rfl ag3) ?_
   refine na ?_
   refine a1 17 [0, 1, 2, 3, 4, 5, 6, 7, 8, 9, 13, 14, 19, 20, 22, 23, 24, 25] [16, 12, 15, 11, 10] rfl rfl (Stp.callR rfl (by decide) Tryz.call42 rfl rfl (reversed_con (a.Procs.getD i.k En.dflt).Pages (by omega)) (nodup_of rfl) rfl rfl) ?_
   refine na ?_
   refine na ?_
   refine ae rfl (fA fl40_3) ?_
   refine na ?_
   refine ae rfl (Qt.load1 rfl rfl rfl ag35) ?_
   refine na ?_
   refine ae rfl (fA fl77_0) ?_
   refine na ?_
   refine ae rfl (Qt.load1 rfl rfl rfl ag3) ?_
   refine na ?_
   refine ae rfl (fA fl77_1) ?_
   refine na ?_
   refine ae rfl (Qt.load1 rfl rfl rfl ag3) ?_
   refine na ?_
   refine ae rfl (fA fl77_2) ?_
   refine na ?_
   refine ae rfl (Qt.load1 rfl rfl rfl ag3) ?_
   refine na ?_
   refine ae rfl (fA fl77_3) ?_
   refine na ?_
   refine ae rfl (Qt.load1 rfl rfl rfl ag3) ?_
   refine na ?_
   refine ae rfl (fA fl46_4) ?_
   refine na ?_
   refine ae rfl (Qt.load1 rfl rfl rfl ag24) ?_
   refine na ?_
   refine ae rfl (fA fl77_6) ?_
   refine na ?_
   refine ae rfl (Qt.load1 rfl rfl rfl ag24) ?_
   refine na ?_
   refine ae rfl (fA fl77_7) ?_
   refine na ?_
   refine ae rfl (Qt.load1 rfl rfl rfl ag3) ?_
   refine na ?_
   refine ae rfl (fA fl77_8) ?_
   refine na ?_
   refine ae rfl (Qt.load1 rfl rfl rfl ag3) ?_
   refine na ?_
   refine a1 18 [0, 1, 2, 3, 4, 5, 6, 7, 8, 9, 19, 20, 22, 23, 24, 25] [17, 14, 16, 12, 13, 15, 11, 10] rfl rfl (Stp.callR rfl (by decide) Tryz.call41 rfl rfl (memOf_con a.Ram (a.Procs.getD i.k En.dflt).Pages.reverse hS.ram (rev_bd (hS.fr i.k hlt)) (by rw [List.length_reverse]; omega)) (nodup_of rfl) rfl rfl) ?_
   refine na ?_
   refine na ?_
   refine ae rfl (fA fl40_3) ?_
   refine na ?_
   refine ae rfl (Qt.load1 rfl rfl rfl ag35) ?_
   refine na ?_
   refine ae rfl (fA fl77_0) ?_
   refine na ?_
   refine ae rfl (Qt.load1 rfl rfl rfl ag3) ?_
   refine na ?_
   refine ae rfl (fA fl77_1) ?_
   refine na ?_
   refine ae rfl (Qt.load1 rfl rfl rfl ag3) ?_
   refine na ?_
   refine ae rfl (fA fl77_2) ?_
   refine na ?_
   refine ae rfl (Qt.load1 rfl rfl rfl ag3) ?_
   refine na ?_
   refine ae rfl (fA fl77_3) ?_
   refine na ?_
   refine ae rfl (Qt.load1 rfl rfl rfl ag3) ?_
   refine na ?_
   refine ae rfl (fA fl77_6) ?_
   refine na ?_
   refine ae rfl (Qt.load1 rfl rfl rfl ag24) ?_
   refine na ?_
   refine ae rfl (fA fl77_7) ?_
   refine na ?_
   refine ae rfl (Qt.load1 rfl rfl rfl ag3) ?_
   refine na ?_
   refine ae rfl (fA fl77_8) ?_
   refine na ?_
   refine ae rfl (Qt.load1 rfl rfl rfl ag3) ?_
   refine na ?_
   refine AWA.rep 57 (tr (memK a.Ram (a.Procs.getD i.k En.dflt).Pages.reverse (a.Procs.getD i.k En.dflt).Pages.length)) rfl (by rw [List.length_reverse]; exact tsr) ?_
   refine na ?_
   refine a1 21 [0, 1, 2, 3, 4, 5, 6, 7, 8, 9, 22, 23, 24, 25] [20, 18, 19, 17, 14, 16, 12, 13, 15, 11, 10] rfl rfl (Stp.callR rfl (by decide) Tryz.call39 rfl rfl (cloneI_con _ (by omega)) (nodup_of rfl) rfl rfl) ?_
   refine na ?_
   refine na ?_
   refine ae rfl (fA fl40_3) ?_
   refine na ?_
   refine ae rfl (Qt.load1 rfl rfl rfl ag35) ?_
   refine na ?_
   refine ae rfl (fA fl77_0) ?_
   refine na ?_
   refine ae rfl (Qt.load1 rfl rfl rfl ag3) ?_
   refine na ?_
   refine ae rfl (fA fl77_1) ?_
   refine na ?_
   refine ae rfl (Qt.load1 rfl rfl rfl ag3) ?_
   refine na ?_
   refine ae rfl (fA fl77_2) ?_
   refine na ?_
   refine ae rfl (Qt.load1 rfl rfl rfl ag3) ?_
   refine na ?_
   refine ae rfl (fA fl77_3) ?_
   refine na ?_
   refine ae rfl (Qt.load1 rfl rfl rfl ag3) ?_
   refine na ?_
   refine ae rfl (fA fl77_7) ?_
   refine na ?_
   refine ae rfl (Qt.load1 rfl rfl rfl ag3) ?_
   refine na ?_
   refine ae rfl (fA fl77_8) ?_
   refine na ?_
   refine ae rfl (Qt.load1 rfl rfl rfl ag3) ?_
   refine na ?_
   refine tk 26 rfl (Qt.build rfl) ?_
   refine na ?_
   refine a1 27 [0, 1] [26, 25, 23, 21, 18, 12, 9, 7, 5, 3, 24, 22, 20, 17, 14, 11, 8, 6, 4, 2, 19, 16, 13, 10, 15] rfl rfl sS ?_
   refine na ?_
   refine na ?_
   refine ae rfl (fA fl40_3) ?_
   refine na ?_
   refine ae rfl (Qt.load1 rfl rfl rfl ag35) ?_
   refine na ?_
   refine AWA.rep 66 (tr [(procN a (a.Procs.getD i.k En.dflt))]) rfl (row1_sim (α := DProc) (fun c hc => match c, hc with | 0, _ => tsr | 1, _ => tsr | 2, _ => tsr | 3, _ => tsr | 4, _ => tsr | 5, _ => tsr | 6, _ => tsr | 7, _ => tsr | 8, _ => tsr | 9, _ => tsr | c + 10, hc => absurd hc (by simp only [En.n]; omega))) ?_
   refine na ?_
   refine a1 28 [] [27, 21, 1, 26, 20, 18, 0, 25, 23, 12, 9, 7, 5, 3, 19, 17, 14, 24, 22, 11, 8, 6, 4, 2, 16, 13, 10, 15] rfl rfl (Stp.appendM rfl (by decide) (by decide) rfl rfl rfl (by simp only [List.length_cons, List.length_nil, List.length_append]; omega)) ?_
   refine na ?_
   refine na ?_
   refine AWA.rep 67 (tr (pmK a (i.k + 1))) rfl (by rw [pmK_next hlt]; exact app_sim (l := pmK a i.k) (l' := [(procN a (a.Procs.getD i.k En.dflt))]) rfl (fun _ _ _ _ => rfl) (fun _ _ _ _ => rfl)) ?_
   refine na ?_
   refine tk 29 rfl (fA fl40_3) ?_
   refine a1 30 [] [29, 28, 27, 26, 25, 24, 23, 22, 21, 20, 19, 18, 17, 16, 15, 14, 13, 12, 11, 10, 9, 8, 7, 6, 5, 4, 3, 2, 1, 0] rfl rfl (by first | exact Stp.storeA rfl rfl rfl rfl (by decide) rfl | exact Stp.store rfl rfl (by simp) rfl rfl rfl (by decide) rfl) ?_
   refine na ?_
   refine na ?_
   refine nz ?_
   refine AW.region ?_
   refine ba ?_
   refine qm ?_
   refine nl ?_
   refine ⟨⟨i.k + 1, by omega⟩, Weak.sim ⟨st1, rfl, rfl, Rf rfl, ⟨rfl, rfl⟩, ⟨rfl, rfl⟩, ⟨rfl, rfl⟩, ⟨rfl, rfl⟩, ⟨rfl, rfl⟩, ⟨rfl, rfl⟩, ⟨rfl, rfl⟩, ⟨rfl, rfl⟩, ⟨rfl, rfl⟩, Rf rfl, Rf rfl, Rf rfl, Rf rfl, Rf rfl, Rf rfl, Rf rfl, Rf rfl, Rf rfl, rfl, rfl, rfl, Rf rfl, ⟨_, rfl, (sc_sim (n := 9) (fun c hc => match c, hc with | 0, _ => tsr | 1, _ => tsr | 2, _ => tsr | 3, _ => tsr | 4, _ => tsr | 5, _ => tsr | 6, _ => tsr | 7, _ => tsr | 8, _ => tsr | c + 9, hc => absurd hc (by omega)))⟩, ⟨rfl, rfl⟩, ⟨rfl, rfl⟩, ⟨rfl, rfl⟩, ⟨rfl, rfl⟩, ⟨rfl, rfl⟩, ⟨rfl, rfl⟩, ⟨rfl, rfl⟩, Rf rfl, Rf rfl, Rf rfl, Rf rfl, Rf rfl, Rf rfl, Rf rfl, trivial⟩ rfl rfl, ?_⟩
   show a.Procs.length - (i.k + 1) < a.Procs.length - i.k
   omega
  try simp only [cnd] at c2
  refine AW.exit ?_
  dsimp only [thenQ, blockQ, reduceIte]
  refine sr2 ?_
  refine qq (fA fl46_7) ?_
  refine nm ?_
  refine ql ag44 ?_
  refine qh sl44 ?_
  refine qm ?_
  refine nl ?_
  refine AW.block ?_
  refine AW.rep 67 (tr (pmK a a.Procs.length)) rfl (by rw [show i.k = a.Procs.length by omega]; exact tsr) ?_
  refine AW.weak (L' := (.sl 73 (.v (iv (0 : Nat))) :: .sl 2 (.p 2 [] 9 0 0) :: .sl 3 (.p 3 [] 9 0 0) :: .sl 71 (.h (base + 5) []) :: .sl 72 (.v (iv a.Pipes.length)) :: .rt base .ro (tr a.Progs) :: .rt (base + 1) .ro (tr a.Procs) :: .rt (base + 2) .ro (tr a.Ram) :: .rt (base + 3) .ro (tr a.Heap.Free) :: .rt (base + 4) .ro (tr a.Opens) :: .rt (base + 5) .ro (tr a.Pipes) :: .rt (base + 6) .ro (tr a.Files) :: .rt (base + 7) .ro (tr a.Ready) :: .rt (base + 8) .ro (tr a.Out) :: .rt 2 .box (T.s 9 1 fun _ c => [T.v (iv 0), T.v (iv 0), T.s 1 0 fun _ _ => T.j, T.s 10 0 fun _ _ => T.j, T.s 5 0 fun _ _ => T.j, T.s 2 0 fun _ _ => T.j, T.s 2 0 fun _ _ => T.j, T.s 1 0 fun _ _ => T.j, T.s 1 0 fun _ _ => T.j].getD c T.j) :: .rt 3 .box (T.s 9 1 fun _ c => [T.v (iv a.Next), T.v (iv a.Tick), T.j, T.j, T.j, T.j, T.j, T.j, T.j].getD c T.j) :: .al 3 2 (.h 18 []) :: .al 3 3 (.h 67 []) :: .al 3 4 (.h 21 []) :: .al 3 5 (.h 86 []) :: .al 3 6 (.h 24 []) :: .al 3 7 (.h 27 []) :: .al 3 8 (.h 30 []) :: .rt 18 .row (tr a.Progs) :: .rt 67 .row (tr (pmK a a.Procs.length)) :: .rt 21 .row (tr a.Opens) :: .rt 86 .row (tr (pkK a (0 : Nat))) :: .rt 24 .row (tr a.Files) :: .rt 27 .row (tr a.Ready) :: .rt 30 .row (tr a.Out) :: [])) (Weak.sim ⟨rfl, rfl, rfl, rfl, rfl, Rf rfl, Rf rfl, Rf rfl, Rf rfl, Rf rfl, Rf rfl, Rf rfl, Rf rfl, Rf rfl, ⟨_, rfl, (sc_sim (n := 9) (fun c hc => match c, hc with | 0, _ => tsr | 1, _ => tsr | 2, _ => tsr | 3, _ => tsr | 4, _ => tsr | 5, _ => tsr | 6, _ => tsr | 7, _ => tsr | 8, _ => tsr | c + 9, hc => absurd hc (by omega)))⟩, ⟨_, rfl, (sc_sim (n := 9) (fun c hc => match c, hc with | 0, _ => tsr | 1, _ => tsr | 2, _ => tsr | 3, _ => tsr | 4, _ => tsr | 5, _ => tsr | 6, _ => tsr | 7, _ => tsr | 8, _ => tsr | c + 9, hc => absurd hc (by omega)))⟩, ⟨rfl, rfl⟩, ⟨rfl, rfl⟩, ⟨rfl, rfl⟩, ⟨rfl, rfl⟩, ⟨rfl, rfl⟩, ⟨rfl, rfl⟩, ⟨rfl, rfl⟩, Rf rfl, Rf rfl, Rf rfl, Rf rfl, Rf rfl, Rf rfl, Rf rfl, trivial⟩ rfl rfl) ?_
  refine AW.loop (fun i : KInv a.Pipes.length => (.sl 73 (.v (iv i.k)) :: .sl 2 (.p 2 [] 9 0 0) :: .sl 3 (.p 3 [] 9 0 0) :: .sl 71 (.h (base + 5) []) :: .sl 72 (.v (iv a.Pipes.length)) :: .rt base .ro (tr a.Progs) :: .rt (base + 1) .ro (tr a.Procs) :: .rt (base + 2) .ro (tr a.Ram) :: .rt (base + 3) .ro (tr a.Heap.Free) :: .rt (base + 4) .ro (tr a.Opens) :: .rt (base + 5) .ro (tr a.Pipes) :: .rt (base + 6) .ro (tr a.Files) :: .rt (base + 7) .ro (tr a.Ready) :: .rt (base + 8) .ro (tr a.Out) :: .rt 2 .box (T.s 9 1 fun _ c => [T.v (iv 0), T.v (iv 0), T.s 1 0 fun _ _ => T.j, T.s 10 0 fun _ _ => T.j, T.s 5 0 fun _ _ => T.j, T.s 2 0 fun _ _ => T.j, T.s 2 0 fun _ _ => T.j, T.s 1 0 fun _ _ => T.j, T.s 1 0 fun _ _ => T.j].getD c T.j) :: .rt 3 .box (T.s 9 1 fun _ c => [T.v (iv a.Next), T.v (iv a.Tick), T.j, T.j, T.j, T.j, T.j, T.j, T.j].getD c T.j) :: .al 3 2 (.h 18 []) :: .al 3 3 (.h 67 []) :: .al 3 4 (.h 21 []) :: .al 3 5 (.h 86 []) :: .al 3 6 (.h 24 []) :: .al 3 7 (.h 27 []) :: .al 3 8 (.h 30 []) :: .rt 18 .row (tr a.Progs) :: .rt 67 .row (tr (pmK a a.Procs.length)) :: .rt 21 .row (tr a.Opens) :: .rt 86 .row (tr (pkK a i.k)) :: .rt 24 .row (tr a.Files) :: .rt 27 .row (tr a.Ready) :: .rt 30 .row (tr a.Out) :: [])) (fun i => a.Pipes.length - i.k) ⟨0, Nat.zero_le _⟩ ?_
  intro i
  have hle := i.le
  have hkl := pkK_len (a := a) (k := i.k)
  refine sr ?_
  refine qb ?_
  refine nl ?_
  refine AW.seq ?_
  refine cd (fun c3 => ?_) fun c3 => ?_
  ·try simp only [cnd] at c3
   have hlt : i.k < a.Pipes.length := by omega
   have hik := wt_ge hlt
   have hik2 : Mk.wt (a.Pipes.getD i.k En.dflt) = Mk.wt (a.Pipes.getD i.k En.dflt).Chunks := rfl
   refine jd (AW.seq (AW.block (sr ?_)))
   refine qq (ix sl44 sz83) ?_
   refine nm ?_
   refine qG ag83 sz83 ?_
   refine sp sA ?_
   refine nm ?_
   refine ss ?_
   refine nl ?_
   refine AW.draw [0, 1, 2, 3, 4, 5, 7, 10] rfl (by decide +kernel) ?_
   refine tk 0 rfl (fA fl40_5) ?_
   refine na ?_
   refine tk 1 rfl (Qt.load1 rfl rfl rfl ag37) ?_
   refine tk 2 rfl (fA fl83_0) ?_
   refine tk 3 rfl (Qt.load1 rfl rfl rfl ag3) ?_
   refine na ?_
   refine tk 4 rfl (fA fl83_1) ?_
   refine tk 5 rfl (Qt.load1 rfl rfl rfl ag25) ?_
   refine a1 6 [0, 1, 2, 3] [5, 4] rfl rfl (Stp.callR rfl (by decide) Tryz.call43 rfl rfl (concat_con (a.Pipes.getD i.k En.dflt).Chunks (by omega)) (nodup_of rfl) rfl rfl) ?_
   refine na ?_
   refine na ?_
   refine ae rfl (fA fl40_5) ?_
   refine na ?_
   refine ae rfl (Qt.load1 rfl rfl rfl ag37) ?_
   refine na ?_
   refine ae rfl (fA fl83_0) ?_
   refine na ?_
   refine ae rfl (Qt.load1 rfl rfl rfl ag3) ?_
   refine na ?_
   refine tk 7 rfl (Qt.build rfl) ?_
   refine a1 8 [0, 1] [7, 6, 3, 5, 2, 4] rfl rfl sS ?_
   refine na ?_
   refine na ?_
   refine ae rfl (fA fl40_5) ?_
   refine na ?_
   refine ae rfl (Qt.load1 rfl rfl rfl ag37) ?_
   refine na ?_
   refine AWA.rep 85 (tr [(pipeN (a.Pipes.getD i.k En.dflt))]) rfl (row1_sim (α := DPipe) (fun c hc => match c, hc with | 0, _ => tsr | 1, _ => tsr | c + 2, hc => absurd hc (by simp only [En.n]; omega))) ?_
   refine na ?_
   refine a1 9 [] [8, 6, 1, 7, 5, 0, 3, 4, 2] rfl rfl (Stp.appendM rfl (by decide) (by decide) rfl rfl rfl (by simp only [List.length_cons, List.length_nil, List.length_append]; omega)) ?_
   refine na ?_
   refine na ?_
   refine AWA.rep 86 (tr (pkK a (i.k + 1))) rfl (by rw [pkK_next hlt]; exact app_sim (l := pkK a i.k) (l' := [(pipeN (a.Pipes.getD i.k En.dflt))]) rfl (fun _ _ _ _ => rfl) (fun _ _ _ _ => rfl)) ?_
   refine na ?_
   refine tk 10 rfl (fA fl40_5) ?_
   refine a1 11 [] [10, 9, 8, 7, 6, 5, 4, 3, 2, 1, 0] rfl rfl (by first | exact Stp.storeA rfl rfl rfl rfl (by decide) rfl | exact Stp.store rfl rfl (by simp) rfl rfl rfl (by decide) rfl) ?_
   refine na ?_
   refine na ?_
   refine nz ?_
   refine AW.region ?_
   refine ba ?_
   refine qm ?_
   refine nl ?_
   refine ⟨⟨i.k + 1, by omega⟩, Weak.sim ⟨st1, rfl, rfl, rfl, rfl, Rf rfl, Rf rfl, Rf rfl, Rf rfl, Rf rfl, Rf rfl, Rf rfl, Rf rfl, Rf rfl, Rf rfl, ⟨_, rfl, (sc_sim (n := 9) (fun c hc => match c, hc with | 0, _ => tsr | 1, _ => tsr | 2, _ => tsr | 3, _ => tsr | 4, _ => tsr | 5, _ => tsr | 6, _ => tsr | 7, _ => tsr | 8, _ => tsr | c + 9, hc => absurd hc (by omega)))⟩, ⟨rfl, rfl⟩, ⟨rfl, rfl⟩, ⟨rfl, rfl⟩, ⟨rfl, rfl⟩, ⟨rfl, rfl⟩, ⟨rfl, rfl⟩, ⟨rfl, rfl⟩, Rf rfl, Rf rfl, Rf rfl, Rf rfl, Rf rfl, Rf rfl, Rf rfl, trivial⟩ rfl rfl, ?_⟩
   show a.Pipes.length - (i.k + 1) < a.Pipes.length - i.k
   omega
  try simp only [cnd] at c3
  refine AW.rep 86 (tr (pkK a a.Pipes.length)) rfl (by rw [show i.k = a.Pipes.length by omega]; exact tsr) ?_
  have hl1 := pmK_len (a := a) (k := a.Procs.length)
  have hl2 := pkK_len (a := a) (k := a.Pipes.length)
  refine AW.exit ?_
  dsimp only [thenQ, blockQ, reduceIte]
  refine sr ?_
  refine qq (fA fl40_3) ?_
  refine nm ?_
  refine ql ag35 ?_
  refine sp (Stp.callH rfl (by decide) Tryz.call44 rfl (sortAllProc_con (pmK a a.Procs.length) (by omega)) rfl rfl rfl (nodup_of rfl) rfl rfl) ?_
  refine nm ?_
  refine AWL.rep 67 (tr (prK a a.Procs.length)) rfl (by exact tsr) ?_
  refine ns ?_
  refine qq (fA fl40_4) ?_
  refine nm ?_
  refine ql ag36 ?_
  refine sp (Stp.callH rfl (by decide) Tryz.call46 rfl (sortAllOpen_con a.Opens (by omega)) rfl rfl rfl (nodup_of rfl) rfl rfl) ?_
  refine nm ?_
  refine AWL.rep 21 (tr (opK a a.Opens.length)) rfl (by rw [opK, List.take_length]; exact tsr) ?_
  refine ns ?_
  refine qq (fA fl40_5) ?_
  refine nm ?_
  refine ql ag37 ?_
  refine sp (Stp.callH rfl (by decide) Tryz.call49 rfl (sortAllPipe_con (pkK a a.Pipes.length) (by omega)) rfl rfl rfl (nodup_of rfl) rfl rfl) ?_
  refine nm ?_
  refine AWL.rep 86 (tr (piK a a.Pipes.length)) rfl (by exact tsr) ?_
  refine ns ?_
  refine qq (fA fl40_6) ?_
  refine nm ?_
  refine ql ag38 ?_
  refine sp (Stp.callH rfl (by decide) Tryz.call51 rfl (sortAllFile_con a.Files (by omega)) rfl rfl rfl (nodup_of rfl) rfl rfl) ?_
  refine nm ?_
  refine AWL.rep 24 (tr (fiK a a.Files.length)) rfl (by rw [fiK, List.take_length]; exact tsr) ?_
  refine ns ?_
  refine qG ag40 sz40 ?_
  refine nm ?_
  refine ss ?_
  refine nl ?_
  refine AW.ret (endQ_ret (.cons (.cellG 2 40 rfl rfl rfl ag40 sz40 (by decide)) .nil) ?_)
  rw [absB_t hsh]
  refine ⟨fun i => if i = 0 then 18 else if i = 1 then 67 else if i = 2 then 21 else if i = 3 then 86 else if i = 4 then 24 else if i = 5 then 27 else 30, rfl, nodup_of rfl, ?_⟩
  intro r hr
  simp only [List.mem_cons, List.not_mem_nil, or_false] at hr
  rcases hr with rfl | rfl | rfl | rfl | rfl | rfl | rfl <;> exact ⟨by simp, rootL_mem rfl⟩
end Go.Proofs.YtekcnnngjoonbaaGreat.VM
