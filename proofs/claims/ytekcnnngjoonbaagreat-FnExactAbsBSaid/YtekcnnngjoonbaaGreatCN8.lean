/- Contracts. No conditions. -/
import Derived.Test.YtekcnnngjoonbaaGreatCN7
import Derived.Test.YtekcnnngjoonbaaGreatCJOP
import Derived.Test.YtekcnnngjoonbaaGreatCJOO
import Derived.Test.YtekcnnngjoonbaaGreatCJOK
import Derived.Test.YtekcnnngjoonbaaGreatCJOF
set_option linter.all false
set_option maxHeartbeats 8000000
set_option maxRecDepth 10000
namespace Go.Proofs.YtekcnnngjoonbaaGreat.VM
open Go Go.RowKit Go.Proofs
structure ShpB (a : DNodes) : Prop where
 ram : a.Ram.length = 64
 fr : ∀ i, i < a.Procs.length → ∀ k, k < (a.Procs.getD i En.dflt).Pages.length → 0 ≤ (a.Procs.getD i En.dflt).Pages.getD k En.dflt ∧ (a.Procs.getD i En.dflt).Pages.getD k En.dflt ≤ 15
theorem all_getD {α : Type} [En α] {l : List α} {p : α → Bool} (h : l.all p = true) {k : Nat} (hk : k < l.length) : p (l.getD k En.dflt) = true := by
 rw [List.getD_eq_getElem?_getD, List.getElem?_eq_getElem hk]
 exact List.all_eq_true.1 h _ (List.getElem_mem _)
theorem shpB {a : DNodes} (h : shapeB a = true) : ShpB a := by
 unfold shapeB at h
 rw [Bool.and_eq_true, Bool.and_eq_true] at h
 refine ⟨by simpa using h.1, fun i hi k hk => ?_⟩
 have h1 := all_getD h.2.1 hi
 have h2 := all_getD h1 hk
 simpa [frame] using h2
def prK (a : DNodes) (k : Nat) : List DProc := sortK DProc.Pid ((a.Procs.take k).map (procN a))
def opK (a : DNodes) (k : Nat) : List DOpen := sortK DOpen.Id (a.Opens.take k)
def piK (a : DNodes) (k : Nat) : List DPipe := sortK DPipe.Id ((a.Pipes.take k).map pipeN)
def fiK (a : DNodes) (k : Nat) : List DFile := sortK DFile.Name (a.Files.take k)
def absN (a : DNodes) : DUnix := { Next := a.Next, Tick := a.Tick, Progs := a.Progs, Procs := prK a a.Procs.length, Opens := opK a a.Opens.length, Pipes := piK a a.Pipes.length, Files := fiK a a.Files.length, Ready := a.Ready, Out := a.Out }
def zeroU : DUnix := { Next := 0, Tick := 0, Progs := [], Procs := [], Opens := [], Pipes := [], Files := [], Ready := [], Out := [] }
def absB (a : DNodes) : DUnix := if shapeB a = true then absN a else zeroU
theorem absB_t {a : DNodes} (h : shapeB a = true) : absB a = absN a := if_pos h
theorem absB_f {a : DNodes} (h : shapeB a = false) : absB a = zeroU := if_neg (by rw [h]; simp)
section
variable {a : DNodes} {k : Nat}
theorem prK_next (h : k < a.Procs.length) : prK a (k + 1) = insK DProc.Pid (prK a k) (procN a (a.Procs.getD k En.dflt)) := by
 rw [prK, take_snocG En.dflt h, List.map_append, List.map_cons, List.map_nil, sortK_snoc]
 rfl
theorem opK_next (h : k < a.Opens.length) : opK a (k + 1) = insK DOpen.Id (opK a k) (a.Opens.getD k En.dflt) := by
 rw [opK, take_snocG En.dflt h, sortK_snoc]
 rfl
theorem piK_next (h : k < a.Pipes.length) : piK a (k + 1) = insK DPipe.Id (piK a k) (pipeN (a.Pipes.getD k En.dflt)) := by
 rw [piK, take_snocG En.dflt h, List.map_append, List.map_cons, List.map_nil, sortK_snoc]
 rfl
theorem fiK_next (h : k < a.Files.length) : fiK a (k + 1) = insK DFile.Name (fiK a k) (a.Files.getD k En.dflt) := by
 rw [fiK, take_snocG En.dflt h, sortK_snoc]
 rfl
theorem prK_len : (prK a k).length ≤ k := by rw [prK, sortK_len, List.length_map, List.length_take]; omega
theorem opK_len : (opK a k).length ≤ k := by rw [opK, sortK_len, List.length_take]; omega
theorem piK_len : (piK a k).length ≤ k := by rw [piK, sortK_len, List.length_map, List.length_take]; omega
theorem fiK_len : (fiK a k).length ≤ k := by rw [fiK, sortK_len, List.length_take]; omega
end

theorem l16Abs_con (a : DNodes) (hS : ShpB a) (hw : Mk.wt a ≤ 1048576) : Con Tryz.prog 27 [.g [.v (iv a.Next), .v (iv a.Tick), .h base [], .h (base + 1) [], .h (base + 2) [], .h (base + 3) [], .h (base + 4) [], .h (base + 5) [], .h (base + 6) [], .h (base + 7) [], .h (base + 8) []]] [.rt base .ro (tr a.Progs), .rt (base + 1) .ro (tr a.Procs), .rt (base + 2) .ro (tr a.Ram), .rt (base + 3) .ro (tr a.Heap.Free), .rt (base + 4) .ro (tr a.Opens), .rt (base + 5) .ro (tr a.Pipes), .rt (base + 6) .ro (tr a.Files), .rt (base + 7) .ro (tr a.Ready), .rt (base + 8) .ro (tr a.Out)] (Ret (.g [.v (iv (absN a).Next), .v (iv (absN a).Tick), .h 0 [], .h 1 [], .h 2 [], .h 3 [], .h 4 [], .h 5 [], .h 6 []]) [(0, .row, tr (absN a).Progs), (1, .row, tr (absN a).Procs), (2, .row, tr (absN a).Opens), (3, .row, tr (absN a).Pipes), (4, .row, tr (absN a).Files), (5, .row, tr (absN a).Ready), (6, .row, tr (absN a).Out)]) := by
 refine ob Tryz.func27 Tryz.ntmps27 ?_
 refine AW.len (base + 1) [] rfl (by simp [Okp]) rfl (fun hl1 => ?_)
 refine AW.len (base + 4) [] rfl (by simp [Okp]) rfl (fun hl4 => ?_)
 refine AW.len (base + 5) [] rfl (by simp [Okp]) rfl (fun hl5 => ?_)
 refine AW.len (base + 6) [] rfl (by simp [Okp]) rfl (fun hl6 => ?_)
 have hwu : Mk.wt a.Progs + Mk.wt a.Procs + Mk.wt a.Ram + Mk.wt a.Heap.Free + Mk.wt a.Opens + Mk.wt a.Pipes + Mk.wt a.Files + Mk.wt a.Ready + Mk.wt a.Out ≤ 1048576 := hw
 have hv0 := wt_len a.Procs
 have hv1 := wt_len a.Opens
 have hv2 := wt_len a.Pipes
 have hv3 := wt_len a.Files
 have hv4 := wt_ints a.Ready
 have hv5 := wt_ints a.Out
 refine sr ?_
 refine bx ?_
 refine nm ?_
 refine sp sA ?_
 refine nl ?_
 refine AW.seq ?_
 refine AW.draw [0, 1, 2, 3, 4, 5, 8, 9, 12, 13, 15] rfl (by decide +kernel) ?_
 refine tk 0 rfl (fA fl46_0) ?_
 refine na ?_
 refine tk 1 rfl (Qt.load1 rfl rfl rfl ag3) ?_
 refine tk 2 rfl (fA fl46_1) ?_
 refine tk 3 rfl (Qt.load1 rfl rfl rfl ag3) ?_
 refine na ?_
 refine tk 4 rfl (fA fl46_2) ?_
 refine tk 5 rfl (Qt.load1 rfl rfl rfl ag34) ?_
 refine tk 8 rfl (fA fl46_9) ?_
 refine na ?_
 refine tk 9 rfl (Qt.load1 rfl rfl rfl ag24) ?_
 refine tk 12 rfl (fA fl46_10) ?_
 refine tk 13 rfl (Qt.load1 rfl rfl rfl ag24) ?_
 refine na ?_
 apply AWA.cutS #[true, true, true, true, true, true, true, true, true, true, true, true, true, true, true, true, true, false] [0, 1, 2, 3, 15]
 ·intro K1_14
  apply AWA.cutS #[true, true, true, true, true, true, true, true, true, true, true, true, true, true, false, false, true, false] [0, 1, 2, 3, 12, 13]
  ·intro K1_13
   apply AWA.cutS #[true, true, true, true, true, true, true, true, true, true, false, true, true, true, false, false, true, false] [0, 1, 2, 3, 8, 9, 12, 13]
   ·intro K1_12
    apply AWA.cutS #[true, true, true, true, true, true, true, true, true, true, true, false, true, true, false, false, true, false] [0, 1, 2, 3, 12, 13]
    ·intro K1_11
     apply AWA.cutS #[true, true, true, true, true, true, true, true, true, true, true, true, true, true, false, false, false, false] [0, 1, 2, 3, 12, 13]
     ·intro K1_10
      apply AWA.cutS #[true, true, true, true, true, true, false, true, true, true, false, true, true, true, false, false, true, false] [0, 1, 2, 3, 4, 5, 8, 9, 12, 13]
      ·intro K1_9
       apply AWA.cutS #[true, true, true, true, true, true, true, false, true, true, false, true, true, true, false, false, true, false] [0, 1, 2, 3, 8, 9, 12, 13]
       ·intro K1_8
        apply AWA.cutS #[true, true, true, true, true, true, true, true, true, true, false, false, true, true, false, false, true, false] [0, 1, 2, 3, 8, 9, 12, 13]
        ·intro K1_7
         apply AWA.cutS #[true, true, true, true, true, true, true, true, true, true, false, true, true, true, false, false, false, false] [0, 1, 2, 3, 8, 9, 12, 13]
         ·intro K1_6
          apply AWA.cutS #[true, true, true, true, true, true, false, false, true, true, false, true, true, true, false, false, true, false] [0, 1, 2, 3, 4, 5, 8, 9, 12, 13]
          ·intro K1_5
           apply AWA.cutS #[true, true, true, true, true, true, false, true, true, true, false, false, true, true, false, false, true, false] [0, 1, 2, 3, 4, 5, 8, 9, 12, 13]
           ·intro K1_4
            apply AWA.cutS #[true, true, true, true, true, true, false, true, true, true, false, true, true, true, false, false, false, false] [0, 1, 2, 3, 4, 5, 8, 9, 12, 13]
            ·intro K1_3
             apply AWA.cutS #[true, true, true, true, true, true, true, false, true, true, false, false, true, true, false, false, true, false] [0, 1, 2, 3, 8, 9, 12, 13]
             ·intro K1_2
              apply AWA.cutS #[true, true, true, true, true, true, true, false, true, true, false, true, true, true, false, false, false, false] [0, 1, 2, 3, 8, 9, 12, 13]
              ·intro K1_1
               apply AWA.cutS #[true, true, true, true, true, true, true, true, true, true, false, false, true, true, false, false, false, false] [0, 1, 2, 3, 8, 9, 12, 13]
               ·intro K1_0
                refine AWA.anyL [6, 7, 11, 16] (by decide +kernel) rfl ⟨?_, ?_, ?_, ?_, trivial⟩
                ·refine AWA.arm 6 [0, 1, 2, 3, 8, 9, 12, 13] [5, 4] rfl rfl rfl (by decide +kernel) (by decide +kernel) (by decide +kernel) (Stp.callR rfl (by decide) Tryz.call95 rfl rfl (l6CopyProgs_con _ (by omega)) (nodup_of rfl) rfl rfl) ?_
                 refine na ?_
                 refine ae rfl (fA fl46_0) ?_
                 refine ae rfl (Qt.load1 rfl rfl rfl ag3) ?_
                 refine ae rfl (fA fl46_1) ?_
                 refine na ?_
                 refine ae rfl (Qt.load1 rfl rfl rfl ag3) ?_
                 refine ae rfl (fA fl46_9) ?_
                 refine ae rfl (Qt.load1 rfl rfl rfl ag24) ?_
                 refine na ?_
                 refine ae rfl (fA fl46_10) ?_
                 refine ae rfl (Qt.load1 rfl rfl rfl ag24) ?_
                 refine na ?_
                 refine AWA.anyL [7, 11, 16] (by decide +kernel) rfl ⟨?_, ?_, ?_, trivial⟩
                 ·refine AWA.arm 7 [0, 1, 2, 3, 8, 9, 12, 13] [] rfl rfl rfl (by decide +kernel) (by decide +kernel) (by decide +kernel) sS ?_
                  refine na ?_
                  refine ae rfl (fA fl46_0) ?_
                  refine ae rfl (Qt.load1 rfl rfl rfl ag3) ?_
                  refine ae rfl (fA fl46_1) ?_
                  refine na ?_
                  refine ae rfl (Qt.load1 rfl rfl rfl ag3) ?_
                  refine ae rfl (fA fl46_9) ?_
                  refine ae rfl (Qt.load1 rfl rfl rfl ag24) ?_
                  refine na ?_
                  refine ae rfl (fA fl46_10) ?_
                  refine ae rfl (Qt.load1 rfl rfl rfl ag24) ?_
                  refine na ?_
                  exact auR K1_0
                 ·refine AWA.arm 11 [0, 1, 2, 3, 8, 9, 12, 13] [] rfl rfl rfl (by decide +kernel) (by decide +kernel) (by decide +kernel) sS ?_
                  refine na ?_
                  refine ae rfl (fA fl46_0) ?_
                  refine ae rfl (Qt.load1 rfl rfl rfl ag3) ?_
                  refine ae rfl (fA fl46_1) ?_
                  refine na ?_
                  refine ae rfl (Qt.load1 rfl rfl rfl ag3) ?_
                  refine ae rfl (fA fl46_9) ?_
                  refine ae rfl (Qt.load1 rfl rfl rfl ag24) ?_
                  refine na ?_
                  refine ae rfl (fA fl46_10) ?_
                  refine ae rfl (Qt.load1 rfl rfl rfl ag24) ?_
                  refine na ?_
                  exact auR K1_1
                 ·refine AWA.arm 16 [0, 1, 2, 3, 8, 9, 12, 13] [] rfl rfl rfl (by decide +kernel) (by decide +kernel) (by decide +kernel) sA ?_
                  refine na ?_
                  refine ae rfl (fA fl46_0) ?_
                  refine ae rfl (Qt.load1 rfl rfl rfl ag3) ?_
                  refine ae rfl (fA fl46_1) ?_
                  refine na ?_
                  refine ae rfl (Qt.load1 rfl rfl rfl ag3) ?_
                  refine ae rfl (fA fl46_9) ?_
                  refine ae rfl (Qt.load1 rfl rfl rfl ag24) ?_
                  refine na ?_
                  refine ae rfl (fA fl46_10) ?_
                  refine ae rfl (Qt.load1 rfl rfl rfl ag24) ?_
                  refine na ?_
                  exact auR K1_2
                ·refine AWA.arm 7 [0, 1, 2, 3, 4, 5, 8, 9, 12, 13] [] rfl rfl rfl (by decide +kernel) (by decide +kernel) (by decide +kernel) sS ?_
                 refine na ?_
                 refine ae rfl (fA fl46_0) ?_
                 refine ae rfl (Qt.load1 rfl rfl rfl ag3) ?_
                 refine ae rfl (fA fl46_1) ?_
                 refine na ?_
                 refine ae rfl (Qt.load1 rfl rfl rfl ag3) ?_
                 refine ae rfl (fA fl46_2) ?_
                 refine ae rfl (Qt.load1 rfl rfl rfl ag34) ?_
                 refine na ?_
                 refine ae rfl (fA fl46_9) ?_
                 refine ae rfl (Qt.load1 rfl rfl rfl ag24) ?_
                 refine ae rfl (fA fl46_10) ?_
                 refine na ?_
                 refine ae rfl (Qt.load1 rfl rfl rfl ag24) ?_
                 refine na ?_
                 refine AWA.anyL [6, 11, 16] (by decide +kernel) rfl ⟨?_, ?_, ?_, trivial⟩
                 ·refine AWA.arm 6 [0, 1, 2, 3, 8, 9, 12, 13] [5, 4] rfl rfl rfl (by decide +kernel) (by decide +kernel) (by decide +kernel) (Stp.callR rfl (by decide) Tryz.call95 rfl rfl (l6CopyProgs_con _ (by omega)) (nodup_of rfl) rfl rfl) ?_
                  refine na ?_
                  refine ae rfl (fA fl46_0) ?_
                  refine ae rfl (Qt.load1 rfl rfl rfl ag3) ?_
                  refine ae rfl (fA fl46_1) ?_
                  refine na ?_
                  refine ae rfl (Qt.load1 rfl rfl rfl ag3) ?_
                  refine ae rfl (fA fl46_9) ?_
                  refine ae rfl (Qt.load1 rfl rfl rfl ag24) ?_
                  refine na ?_
                  refine ae rfl (fA fl46_10) ?_
                  refine ae rfl (Qt.load1 rfl rfl rfl ag24) ?_
                  refine na ?_
                  exact auP K1_0
                 ·refine AWA.arm 11 [0, 1, 2, 3, 4, 5, 8, 9, 12, 13] [] rfl rfl rfl (by decide +kernel) (by decide +kernel) (by decide +kernel) sS ?_
                  refine na ?_
                  refine ae rfl (fA fl46_0) ?_
                  refine ae rfl (Qt.load1 rfl rfl rfl ag3) ?_
                  refine ae rfl (fA fl46_1) ?_
                  refine na ?_
                  refine ae rfl (Qt.load1 rfl rfl rfl ag3) ?_
                  refine ae rfl (fA fl46_2) ?_
                  refine ae rfl (Qt.load1 rfl rfl rfl ag34) ?_
                  refine na ?_
                  refine ae rfl (fA fl46_9) ?_
                  refine ae rfl (Qt.load1 rfl rfl rfl ag24) ?_
                  refine ae rfl (fA fl46_10) ?_
                  refine na ?_
                  refine ae rfl (Qt.load1 rfl rfl rfl ag24) ?_
                  refine na ?_
                  exact auR K1_3
                 ·refine AWA.arm 16 [0, 1, 2, 3, 4, 5, 8, 9, 12, 13] [] rfl rfl rfl (by decide +kernel) (by decide +kernel) (by decide +kernel) sA ?_
                  refine na ?_
                  refine ae rfl (fA fl46_0) ?_
                  refine ae rfl (Qt.load1 rfl rfl rfl ag3) ?_
                  refine ae rfl (fA fl46_1) ?_
                  refine na ?_
                  refine ae rfl (Qt.load1 rfl rfl rfl ag3) ?_
                  refine ae rfl (fA fl46_2) ?_
                  refine ae rfl (Qt.load1 rfl rfl rfl ag34) ?_
                  refine na ?_
                  refine ae rfl (fA fl46_9) ?_
                  refine ae rfl (Qt.load1 rfl rfl rfl ag24) ?_
                  refine ae rfl (fA fl46_10) ?_
                  refine na ?_
                  refine ae rfl (Qt.load1 rfl rfl rfl ag24) ?_
                  refine na ?_
                  exact auR K1_4
                ·refine AWA.arm 11 [0, 1, 2, 3, 4, 5, 8, 9, 12, 13] [] rfl rfl rfl (by decide +kernel) (by decide +kernel) (by decide +kernel) sS ?_
                 refine na ?_
                 refine ae rfl (fA fl46_0) ?_
                 refine ae rfl (Qt.load1 rfl rfl rfl ag3) ?_
                 refine ae rfl (fA fl46_1) ?_
                 refine na ?_
                 refine ae rfl (Qt.load1 rfl rfl rfl ag3) ?_
                 refine ae rfl (fA fl46_2) ?_
                 refine ae rfl (Qt.load1 rfl rfl rfl ag34) ?_
                 refine na ?_
                 refine ae rfl (fA fl46_9) ?_
                 refine ae rfl (Qt.load1 rfl rfl rfl ag24) ?_
                 refine ae rfl (fA fl46_10) ?_
                 refine na ?_
                 refine ae rfl (Qt.load1 rfl rfl rfl ag24) ?_
                 refine na ?_
                 refine AWA.anyL [6, 7, 16] (by decide +kernel) rfl ⟨?_, ?_, ?_, trivial⟩
                 ·refine AWA.arm 6 [0, 1, 2, 3, 8, 9, 12, 13] [5, 4] rfl rfl rfl (by decide +kernel) (by decide +kernel) (by decide +kernel) (Stp.callR rfl (by decide) Tryz.call95 rfl rfl (l6CopyProgs_con _ (by omega)) (nodup_of rfl) rfl rfl) ?_
                  refine na ?_
                  refine ae rfl (fA fl46_0) ?_
                  refine ae rfl (Qt.load1 rfl rfl rfl ag3) ?_
                  refine ae rfl (fA fl46_1) ?_
                  refine na ?_
                  refine ae rfl (Qt.load1 rfl rfl rfl ag3) ?_
                  refine ae rfl (fA fl46_9) ?_
                  refine ae rfl (Qt.load1 rfl rfl rfl ag24) ?_
                  refine na ?_
                  refine ae rfl (fA fl46_10) ?_
                  refine ae rfl (Qt.load1 rfl rfl rfl ag24) ?_
                  refine na ?_
                  exact auP K1_1
                 ·refine AWA.arm 7 [0, 1, 2, 3, 4, 5, 8, 9, 12, 13] [] rfl rfl rfl (by decide +kernel) (by decide +kernel) (by decide +kernel) sS ?_
                  refine na ?_
                  refine ae rfl (fA fl46_0) ?_
                  refine ae rfl (Qt.load1 rfl rfl rfl ag3) ?_
                  refine ae rfl (fA fl46_1) ?_
                  refine na ?_
                  refine ae rfl (Qt.load1 rfl rfl rfl ag3) ?_
                  refine ae rfl (fA fl46_2) ?_
                  refine ae rfl (Qt.load1 rfl rfl rfl ag34) ?_
                  refine na ?_
                  refine ae rfl (fA fl46_9) ?_
                  refine ae rfl (Qt.load1 rfl rfl rfl ag24) ?_
                  refine ae rfl (fA fl46_10) ?_
                  refine na ?_
                  refine ae rfl (Qt.load1 rfl rfl rfl ag24) ?_
                  refine na ?_
                  exact auP K1_3
                 ·refine AWA.arm 16 [0, 1, 2, 3, 4, 5, 8, 9, 12, 13] [] rfl rfl rfl (by decide +kernel) (by decide +kernel) (by decide +kernel) sA ?_
                  refine na ?_
                  refine ae rfl (fA fl46_0) ?_
                  refine ae rfl (Qt.load1 rfl rfl rfl ag3) ?_
                  refine ae rfl (fA fl46_1) ?_
                  refine na ?_
                  refine ae rfl (Qt.load1 rfl rfl rfl ag3) ?_
                  refine ae rfl (fA fl46_2) ?_
                  refine ae rfl (Qt.load1 rfl rfl rfl ag34) ?_
                  refine na ?_
                  refine ae rfl (fA fl46_9) ?_
                  refine ae rfl (Qt.load1 rfl rfl rfl ag24) ?_
                  refine ae rfl (fA fl46_10) ?_
                  refine na ?_
                  refine ae rfl (Qt.load1 rfl rfl rfl ag24) ?_
                  refine na ?_
                  exact auR K1_5
                ·refine AWA.arm 16 [0, 1, 2, 3, 4, 5, 8, 9, 12, 13] [] rfl rfl rfl (by decide +kernel) (by decide +kernel) (by decide +kernel) sA ?_
                 refine na ?_
                 refine ae rfl (fA fl46_0) ?_
                 refine ae rfl (Qt.load1 rfl rfl rfl ag3) ?_
                 refine ae rfl (fA fl46_1) ?_
                 refine na ?_
                 refine ae rfl (Qt.load1 rfl rfl rfl ag3) ?_
                 refine ae rfl (fA fl46_2) ?_
                 refine ae rfl (Qt.load1 rfl rfl rfl ag34) ?_
                 refine na ?_
                 refine ae rfl (fA fl46_9) ?_
                 refine ae rfl (Qt.load1 rfl rfl rfl ag24) ?_
                 refine ae rfl (fA fl46_10) ?_
                 refine na ?_
                 refine ae rfl (Qt.load1 rfl rfl rfl ag24) ?_
                 refine na ?_
                 refine AWA.anyL [6, 7, 11] (by decide +kernel) rfl ⟨?_, ?_, ?_, trivial⟩
                 ·refine AWA.arm 6 [0, 1, 2, 3, 8, 9, 12, 13] [5, 4] rfl rfl rfl (by decide +kernel) (by decide +kernel) (by decide +kernel) (Stp.callR rfl (by decide) Tryz.call95 rfl rfl (l6CopyProgs_con _ (by omega)) (nodup_of rfl) rfl rfl) ?_
                  refine na ?_
                  refine ae rfl (fA fl46_0) ?_
                  refine ae rfl (Qt.load1 rfl rfl rfl ag3) ?_
                  refine ae rfl (fA fl46_1) ?_
                  refine na ?_
                  refine ae rfl (Qt.load1 rfl rfl rfl ag3) ?_
                  refine ae rfl (fA fl46_9) ?_
                  refine ae rfl (Qt.load1 rfl rfl rfl ag24) ?_
                  refine na ?_
                  refine ae rfl (fA fl46_10) ?_
                  refine ae rfl (Qt.load1 rfl rfl rfl ag24) ?_
                  refine na ?_
                  exact auP K1_2
                 ·refine AWA.arm 7 [0, 1, 2, 3, 4, 5, 8, 9, 12, 13] [] rfl rfl rfl (by decide +kernel) (by decide +kernel) (by decide +kernel) sS ?_
                  refine na ?_
                  refine ae rfl (fA fl46_0) ?_
                  refine ae rfl (Qt.load1 rfl rfl rfl ag3) ?_
                  refine ae rfl (fA fl46_1) ?_
                  refine na ?_
                  refine ae rfl (Qt.load1 rfl rfl rfl ag3) ?_
                  refine ae rfl (fA fl46_2) ?_
                  refine ae rfl (Qt.load1 rfl rfl rfl ag34) ?_
                  refine na ?_
                  refine ae rfl (fA fl46_9) ?_
                  refine ae rfl (Qt.load1 rfl rfl rfl ag24) ?_
                  refine ae rfl (fA fl46_10) ?_
                  refine na ?_
                  refine ae rfl (Qt.load1 rfl rfl rfl ag24) ?_
                  refine na ?_
                  exact auP K1_4
                 ·refine AWA.arm 11 [0, 1, 2, 3, 4, 5, 8, 9, 12, 13] [] rfl rfl rfl (by decide +kernel) (by decide +kernel) (by decide +kernel) sS ?_
                  refine na ?_
                  refine ae rfl (fA fl46_0) ?_
                  refine ae rfl (Qt.load1 rfl rfl rfl ag3) ?_
                  refine ae rfl (fA fl46_1) ?_
                  refine na ?_
                  refine ae rfl (Qt.load1 rfl rfl rfl ag3) ?_
                  refine ae rfl (fA fl46_2) ?_
                  refine ae rfl (Qt.load1 rfl rfl rfl ag34) ?_
                  refine na ?_
                  refine ae rfl (fA fl46_9) ?_
                  refine ae rfl (Qt.load1 rfl rfl rfl ag24) ?_
                  refine ae rfl (fA fl46_10) ?_
                  refine na ?_
                  refine ae rfl (Qt.load1 rfl rfl rfl ag24) ?_
                  refine na ?_
                  exact auP K1_5
               ·refine AWA.anyL [10, 11, 16] (by decide +kernel) rfl ⟨?_, ?_, ?_, trivial⟩
                ·refine AWA.arm 10 [0, 1, 2, 3, 12, 13] [9, 7, 6, 8, 5, 4] rfl rfl rfl (by decide +kernel) (by decide +kernel) (by decide +kernel) (by first | exact Stp.appendC rfl (by decide) (by decide) rfl rfl (by omega) | exact Stp.appendM rfl (by decide) (by decide) rfl rfl rfl (by omega)) ?_
                 refine na ?_
                 refine ae rfl (fA fl46_0) ?_
                 refine ae rfl (Qt.load1 rfl rfl rfl ag3) ?_
                 refine ae rfl (fA fl46_1) ?_
                 refine na ?_
                 refine ae rfl (Qt.load1 rfl rfl rfl ag3) ?_
                 refine ae rfl (fA fl46_10) ?_
                 refine ae rfl (Qt.load1 rfl rfl rfl ag24) ?_
                 refine na ?_
                 refine AWA.rep 18 (tr a.Ready) rfl (app_nil (α := Int)) ?_
                 refine na ?_
                 refine AWA.anyL [11, 16] (by decide +kernel) rfl ⟨?_, ?_, trivial⟩
                 ·refine AWA.arm 11 [0, 1, 2, 3, 12, 13] [] rfl rfl rfl (by decide +kernel) (by decide +kernel) (by decide +kernel) sS ?_
                  refine na ?_
                  refine ae rfl (fA fl46_0) ?_
                  refine ae rfl (Qt.load1 rfl rfl rfl ag3) ?_
                  refine ae rfl (fA fl46_1) ?_
                  refine na ?_
                  refine ae rfl (Qt.load1 rfl rfl rfl ag3) ?_
                  refine ae rfl (fA fl46_10) ?_
                  refine ae rfl (Qt.load1 rfl rfl rfl ag24) ?_
                  refine na ?_
                  exact auR K1_10
                 ·refine AWA.arm 16 [0, 1, 2, 3, 12, 13] [] rfl rfl rfl (by decide +kernel) (by decide +kernel) (by decide +kernel) sA ?_
                  refine na ?_
                  refine ae rfl (fA fl46_0) ?_
                  refine ae rfl (Qt.load1 rfl rfl rfl ag3) ?_
                  refine ae rfl (fA fl46_1) ?_
                  refine na ?_
                  refine ae rfl (Qt.load1 rfl rfl rfl ag3) ?_
                  refine ae rfl (fA fl46_10) ?_
                  refine ae rfl (Qt.load1 rfl rfl rfl ag24) ?_
                  refine na ?_
                  exact auR K1_11
                ·refine AWA.arm 11 [0, 1, 2, 3, 8, 9, 12, 13] [] rfl rfl rfl (by decide +kernel) (by decide +kernel) (by decide +kernel) sS ?_
                 refine na ?_
                 refine ae rfl (fA fl46_0) ?_
                 refine ae rfl (Qt.load1 rfl rfl rfl ag3) ?_
                 refine ae rfl (fA fl46_1) ?_
                 refine na ?_
                 refine ae rfl (Qt.load1 rfl rfl rfl ag3) ?_
                 refine ae rfl (fA fl46_9) ?_
                 refine ae rfl (Qt.load1 rfl rfl rfl ag24) ?_
                 refine na ?_
                 refine ae rfl (fA fl46_10) ?_
                 refine ae rfl (Qt.load1 rfl rfl rfl ag24) ?_
                 refine na ?_
                 exact auR K1_6
                ·refine AWA.arm 16 [0, 1, 2, 3, 8, 9, 12, 13] [] rfl rfl rfl (by decide +kernel) (by decide +kernel) (by decide +kernel) sA ?_
                 refine na ?_
                 refine ae rfl (fA fl46_0) ?_
                 refine ae rfl (Qt.load1 rfl rfl rfl ag3) ?_
                 refine ae rfl (fA fl46_1) ?_
                 refine na ?_
                 refine ae rfl (Qt.load1 rfl rfl rfl ag3) ?_
                 refine ae rfl (fA fl46_9) ?_
                 refine ae rfl (Qt.load1 rfl rfl rfl ag24) ?_
                 refine na ?_
                 refine ae rfl (fA fl46_10) ?_
                 refine ae rfl (Qt.load1 rfl rfl rfl ag24) ?_
                 refine na ?_
                 exact auR K1_7
              ·refine AWA.anyL [7, 16] (by decide +kernel) rfl ⟨?_, ?_, trivial⟩
               ·refine AWA.arm 7 [0, 1, 2, 3, 8, 9, 12, 13] [] rfl rfl rfl (by decide +kernel) (by decide +kernel) (by decide +kernel) sS ?_
                refine na ?_
                refine ae rfl (fA fl46_0) ?_
                refine ae rfl (Qt.load1 rfl rfl rfl ag3) ?_
                refine ae rfl (fA fl46_1) ?_
                refine na ?_
                refine ae rfl (Qt.load1 rfl rfl rfl ag3) ?_
                refine ae rfl (fA fl46_9) ?_
                refine ae rfl (Qt.load1 rfl rfl rfl ag24) ?_
                refine na ?_
                refine ae rfl (fA fl46_10) ?_
                refine ae rfl (Qt.load1 rfl rfl rfl ag24) ?_
                refine na ?_
                exact auP K1_6
               ·refine AWA.arm 16 [0, 1, 2, 3, 8, 9, 12, 13] [] rfl rfl rfl (by decide +kernel) (by decide +kernel) (by decide +kernel) sA ?_
                refine na ?_
                refine ae rfl (fA fl46_0) ?_
                refine ae rfl (Qt.load1 rfl rfl rfl ag3) ?_
                refine ae rfl (fA fl46_1) ?_
                refine na ?_
                refine ae rfl (Qt.load1 rfl rfl rfl ag3) ?_
                refine ae rfl (fA fl46_9) ?_
                refine ae rfl (Qt.load1 rfl rfl rfl ag24) ?_
                refine na ?_
                refine ae rfl (fA fl46_10) ?_
                refine ae rfl (Qt.load1 rfl rfl rfl ag24) ?_
                refine na ?_
                exact auR K1_8
             ·refine AWA.anyL [7, 11] (by decide +kernel) rfl ⟨?_, ?_, trivial⟩
              ·refine AWA.arm 7 [0, 1, 2, 3, 8, 9, 12, 13] [] rfl rfl rfl (by decide +kernel) (by decide +kernel) (by decide +kernel) sS ?_
               refine na ?_
               refine ae rfl (fA fl46_0) ?_
               refine ae rfl (Qt.load1 rfl rfl rfl ag3) ?_
               refine ae rfl (fA fl46_1) ?_
               refine na ?_
               refine ae rfl (Qt.load1 rfl rfl rfl ag3) ?_
               refine ae rfl (fA fl46_9) ?_
               refine ae rfl (Qt.load1 rfl rfl rfl ag24) ?_
               refine na ?_
               refine ae rfl (fA fl46_10) ?_
               refine ae rfl (Qt.load1 rfl rfl rfl ag24) ?_
               refine na ?_
               exact auP K1_7
              ·refine AWA.arm 11 [0, 1, 2, 3, 8, 9, 12, 13] [] rfl rfl rfl (by decide +kernel) (by decide +kernel) (by decide +kernel) sS ?_
               refine na ?_
               refine ae rfl (fA fl46_0) ?_
               refine ae rfl (Qt.load1 rfl rfl rfl ag3) ?_
               refine ae rfl (fA fl46_1) ?_
               refine na ?_
               refine ae rfl (Qt.load1 rfl rfl rfl ag3) ?_
               refine ae rfl (fA fl46_9) ?_
               refine ae rfl (Qt.load1 rfl rfl rfl ag24) ?_
               refine na ?_
               refine ae rfl (fA fl46_10) ?_
               refine ae rfl (Qt.load1 rfl rfl rfl ag24) ?_
               refine na ?_
               exact auP K1_8
            ·refine AWA.anyL [6, 16] (by decide +kernel) rfl ⟨?_, ?_, trivial⟩
             ·refine AWA.arm 6 [0, 1, 2, 3, 8, 9, 12, 13] [5, 4] rfl rfl rfl (by decide +kernel) (by decide +kernel) (by decide +kernel) (Stp.callR rfl (by decide) Tryz.call95 rfl rfl (l6CopyProgs_con _ (by omega)) (nodup_of rfl) rfl rfl) ?_
              refine na ?_
              refine ae rfl (fA fl46_0) ?_
              refine ae rfl (Qt.load1 rfl rfl rfl ag3) ?_
              refine ae rfl (fA fl46_1) ?_
              refine na ?_
              refine ae rfl (Qt.load1 rfl rfl rfl ag3) ?_
              refine ae rfl (fA fl46_9) ?_
              refine ae rfl (Qt.load1 rfl rfl rfl ag24) ?_
              refine na ?_
              refine ae rfl (fA fl46_10) ?_
              refine ae rfl (Qt.load1 rfl rfl rfl ag24) ?_
              refine na ?_
              exact auP K1_6
             ·refine AWA.arm 16 [0, 1, 2, 3, 4, 5, 8, 9, 12, 13] [] rfl rfl rfl (by decide +kernel) (by decide +kernel) (by decide +kernel) sA ?_
              refine na ?_
              refine ae rfl (fA fl46_0) ?_
              refine ae rfl (Qt.load1 rfl rfl rfl ag3) ?_
              refine ae rfl (fA fl46_1) ?_
              refine na ?_
              refine ae rfl (Qt.load1 rfl rfl rfl ag3) ?_
              refine ae rfl (fA fl46_2) ?_
              refine ae rfl (Qt.load1 rfl rfl rfl ag34) ?_
              refine na ?_
              refine ae rfl (fA fl46_9) ?_
              refine ae rfl (Qt.load1 rfl rfl rfl ag24) ?_
              refine ae rfl (fA fl46_10) ?_
              refine na ?_
              refine ae rfl (Qt.load1 rfl rfl rfl ag24) ?_
              refine na ?_
              exact auR K1_9
           ·refine AWA.anyL [6, 11] (by decide +kernel) rfl ⟨?_, ?_, trivial⟩
            ·refine AWA.arm 6 [0, 1, 2, 3, 8, 9, 12, 13] [5, 4] rfl rfl rfl (by decide +kernel) (by decide +kernel) (by decide +kernel) (Stp.callR rfl (by decide) Tryz.call95 rfl rfl (l6CopyProgs_con _ (by omega)) (nodup_of rfl) rfl rfl) ?_
             refine na ?_
             refine ae rfl (fA fl46_0) ?_
             refine ae rfl (Qt.load1 rfl rfl rfl ag3) ?_
             refine ae rfl (fA fl46_1) ?_
             refine na ?_
             refine ae rfl (Qt.load1 rfl rfl rfl ag3) ?_
             refine ae rfl (fA fl46_9) ?_
             refine ae rfl (Qt.load1 rfl rfl rfl ag24) ?_
             refine na ?_
             refine ae rfl (fA fl46_10) ?_
             refine ae rfl (Qt.load1 rfl rfl rfl ag24) ?_
             refine na ?_
             exact auP K1_7
            ·refine AWA.arm 11 [0, 1, 2, 3, 4, 5, 8, 9, 12, 13] [] rfl rfl rfl (by decide +kernel) (by decide +kernel) (by decide +kernel) sS ?_
             refine na ?_
             refine ae rfl (fA fl46_0) ?_
             refine ae rfl (Qt.load1 rfl rfl rfl ag3) ?_
             refine ae rfl (fA fl46_1) ?_
             refine na ?_
             refine ae rfl (Qt.load1 rfl rfl rfl ag3) ?_
             refine ae rfl (fA fl46_2) ?_
             refine ae rfl (Qt.load1 rfl rfl rfl ag34) ?_
             refine na ?_
             refine ae rfl (fA fl46_9) ?_
             refine ae rfl (Qt.load1 rfl rfl rfl ag24) ?_
             refine ae rfl (fA fl46_10) ?_
             refine na ?_
             refine ae rfl (Qt.load1 rfl rfl rfl ag24) ?_
             refine na ?_
             exact auP K1_9
          ·refine AWA.anyL [6, 7] (by decide +kernel) rfl ⟨?_, ?_, trivial⟩
           ·refine AWA.arm 6 [0, 1, 2, 3, 8, 9, 12, 13] [5, 4] rfl rfl rfl (by decide +kernel) (by decide +kernel) (by decide +kernel) (Stp.callR rfl (by decide) Tryz.call95 rfl rfl (l6CopyProgs_con _ (by omega)) (nodup_of rfl) rfl rfl) ?_
            refine na ?_
            refine ae rfl (fA fl46_0) ?_
            refine ae rfl (Qt.load1 rfl rfl rfl ag3) ?_
            refine ae rfl (fA fl46_1) ?_
            refine na ?_
            refine ae rfl (Qt.load1 rfl rfl rfl ag3) ?_
            refine ae rfl (fA fl46_9) ?_
            refine ae rfl (Qt.load1 rfl rfl rfl ag24) ?_
            refine na ?_
            refine ae rfl (fA fl46_10) ?_
            refine ae rfl (Qt.load1 rfl rfl rfl ag24) ?_
            refine na ?_
            exact auP K1_8
           ·refine AWA.arm 7 [0, 1, 2, 3, 4, 5, 8, 9, 12, 13] [] rfl rfl rfl (by decide +kernel) (by decide +kernel) (by decide +kernel) sS ?_
            refine na ?_
            refine ae rfl (fA fl46_0) ?_
            refine ae rfl (Qt.load1 rfl rfl rfl ag3) ?_
            refine ae rfl (fA fl46_1) ?_
            refine na ?_
            refine ae rfl (Qt.load1 rfl rfl rfl ag3) ?_
            refine ae rfl (fA fl46_2) ?_
            refine ae rfl (Qt.load1 rfl rfl rfl ag34) ?_
            refine na ?_
            refine ae rfl (fA fl46_9) ?_
            refine ae rfl (Qt.load1 rfl rfl rfl ag24) ?_
            refine ae rfl (fA fl46_10) ?_
            refine na ?_
            refine ae rfl (Qt.load1 rfl rfl rfl ag24) ?_
            refine na ?_
            exact auP K1_9
         ·refine AWA.anyL [10, 16] (by decide +kernel) rfl ⟨?_, ?_, trivial⟩
          ·refine AWA.arm 10 [0, 1, 2, 3, 12, 13] [9, 7, 6, 8, 5, 4] rfl rfl rfl (by decide +kernel) (by decide +kernel) (by decide +kernel) (by first | exact Stp.appendC rfl (by decide) (by decide) rfl rfl (by omega) | exact Stp.appendM rfl (by decide) (by decide) rfl rfl rfl (by omega)) ?_
           refine na ?_
           refine ae rfl (fA fl46_0) ?_
           refine ae rfl (Qt.load1 rfl rfl rfl ag3) ?_
           refine ae rfl (fA fl46_1) ?_
           refine na ?_
           refine ae rfl (Qt.load1 rfl rfl rfl ag3) ?_
           refine ae rfl (fA fl46_10) ?_
           refine ae rfl (Qt.load1 rfl rfl rfl ag24) ?_
           refine na ?_
           refine AWA.rep 18 (tr a.Ready) rfl (app_nil (α := Int)) ?_
           refine na ?_
           exact auP K1_10
          ·refine AWA.arm 16 [0, 1, 2, 3, 8, 9, 12, 13] [] rfl rfl rfl (by decide +kernel) (by decide +kernel) (by decide +kernel) sA ?_
           refine na ?_
           refine ae rfl (fA fl46_0) ?_
           refine ae rfl (Qt.load1 rfl rfl rfl ag3) ?_
           refine ae rfl (fA fl46_1) ?_
           refine na ?_
           refine ae rfl (Qt.load1 rfl rfl rfl ag3) ?_
           refine ae rfl (fA fl46_9) ?_
           refine ae rfl (Qt.load1 rfl rfl rfl ag24) ?_
           refine na ?_
           refine ae rfl (fA fl46_10) ?_
           refine ae rfl (Qt.load1 rfl rfl rfl ag24) ?_
           refine na ?_
           exact auR K1_12
        ·refine AWA.anyL [10, 11] (by decide +kernel) rfl ⟨?_, ?_, trivial⟩
         ·refine AWA.arm 10 [0, 1, 2, 3, 12, 13] [9, 7, 6, 8, 5, 4] rfl rfl rfl (by decide +kernel) (by decide +kernel) (by decide +kernel) (by first | exact Stp.appendC rfl (by decide) (by decide) rfl rfl (by omega) | exact Stp.appendM rfl (by decide) (by decide) rfl rfl rfl (by omega)) ?_
          refine na ?_
          refine ae rfl (fA fl46_0) ?_
          refine ae rfl (Qt.load1 rfl rfl rfl ag3) ?_
          refine ae rfl (fA fl46_1) ?_
          refine na ?_
          refine ae rfl (Qt.load1 rfl rfl rfl ag3) ?_
          refine ae rfl (fA fl46_10) ?_
          refine ae rfl (Qt.load1 rfl rfl rfl ag24) ?_
          refine na ?_
          refine AWA.rep 18 (tr a.Ready) rfl (app_nil (α := Int)) ?_
          refine na ?_
          exact auP K1_11
         ·refine AWA.arm 11 [0, 1, 2, 3, 8, 9, 12, 13] [] rfl rfl rfl (by decide +kernel) (by decide +kernel) (by decide +kernel) sS ?_
          refine na ?_
          refine ae rfl (fA fl46_0) ?_
          refine ae rfl (Qt.load1 rfl rfl rfl ag3) ?_
          refine ae rfl (fA fl46_1) ?_
          refine na ?_
          refine ae rfl (Qt.load1 rfl rfl rfl ag3) ?_
          refine ae rfl (fA fl46_9) ?_
          refine ae rfl (Qt.load1 rfl rfl rfl ag24) ?_
          refine na ?_
          refine ae rfl (fA fl46_10) ?_
          refine ae rfl (Qt.load1 rfl rfl rfl ag24) ?_
          refine na ?_
          exact auP K1_12
       ·refine AWA.one 7 [0, 1, 2, 3, 8, 9, 12, 13] [] (by decide +kernel) rfl rfl rfl (by decide +kernel) (by decide +kernel) (by decide +kernel) sS ?_
        refine na ?_
        refine ae rfl (fA fl46_0) ?_
        refine ae rfl (Qt.load1 rfl rfl rfl ag3) ?_
        refine ae rfl (fA fl46_1) ?_
        refine na ?_
        refine ae rfl (Qt.load1 rfl rfl rfl ag3) ?_
        refine ae rfl (fA fl46_9) ?_
        refine ae rfl (Qt.load1 rfl rfl rfl ag24) ?_
        refine na ?_
        refine ae rfl (fA fl46_10) ?_
        refine ae rfl (Qt.load1 rfl rfl rfl ag24) ?_
        refine na ?_
        exact auP K1_12
      ·refine AWA.one 6 [0, 1, 2, 3, 8, 9, 12, 13] [5, 4] (by decide +kernel) rfl rfl rfl (by decide +kernel) (by decide +kernel) (by decide +kernel) (Stp.callR rfl (by decide) Tryz.call95 rfl rfl (l6CopyProgs_con _ (by omega)) (nodup_of rfl) rfl rfl) ?_
       refine na ?_
       refine ae rfl (fA fl46_0) ?_
       refine ae rfl (Qt.load1 rfl rfl rfl ag3) ?_
       refine ae rfl (fA fl46_1) ?_
       refine na ?_
       refine ae rfl (Qt.load1 rfl rfl rfl ag3) ?_
       refine ae rfl (fA fl46_9) ?_
       refine ae rfl (Qt.load1 rfl rfl rfl ag24) ?_
       refine na ?_
       refine ae rfl (fA fl46_10) ?_
       refine ae rfl (Qt.load1 rfl rfl rfl ag24) ?_
       refine na ?_
       exact auP K1_12
     ·refine AWA.anyL [14, 16] (by decide +kernel) rfl ⟨?_, ?_, trivial⟩
      ·refine AWA.arm 14 [0, 1, 2, 3] [13, 11, 10, 12, 9, 7, 6, 8, 5, 4] rfl rfl rfl (by decide +kernel) (by decide +kernel) (by decide +kernel) (by first | exact Stp.appendC rfl (by decide) (by decide) rfl rfl (by omega) | exact Stp.appendM rfl (by decide) (by decide) rfl rfl rfl (by omega)) ?_
       refine na ?_
       refine ae rfl (fA fl46_0) ?_
       refine ae rfl (Qt.load1 rfl rfl rfl ag3) ?_
       refine ae rfl (fA fl46_1) ?_
       refine na ?_
       refine ae rfl (Qt.load1 rfl rfl rfl ag3) ?_
       refine na ?_
       refine AWA.rep 22 (tr a.Out) rfl (app_nil (α := Int)) ?_
       refine na ?_
       refine AWA.take 15 rfl rfl rfl (by decide +kernel) (.on rfl rfl (Qt.build rfl)) ?_
       refine AWA.one 16 [0, 1, 2, 3, 15] [] (by decide +kernel) rfl rfl rfl (by decide +kernel) (by decide +kernel) (by decide +kernel) sA ?_
       refine na ?_
       refine ae rfl (fA fl46_0) ?_
       refine ae rfl (Qt.load1 rfl rfl rfl ag3) ?_
       refine ae rfl (fA fl46_1) ?_
       refine na ?_
       refine ae rfl (Qt.load1 rfl rfl rfl ag3) ?_
       refine ae rfl (Qt.build rfl) ?_
       refine na ?_
       exact auR K1_14
      ·refine AWA.arm 16 [0, 1, 2, 3, 12, 13] [] rfl rfl rfl (by decide +kernel) (by decide +kernel) (by decide +kernel) sA ?_
       refine na ?_
       refine ae rfl (fA fl46_0) ?_
       refine ae rfl (Qt.load1 rfl rfl rfl ag3) ?_
       refine ae rfl (fA fl46_1) ?_
       refine na ?_
       refine ae rfl (Qt.load1 rfl rfl rfl ag3) ?_
       refine ae rfl (fA fl46_10) ?_
       refine ae rfl (Qt.load1 rfl rfl rfl ag24) ?_
       refine na ?_
       exact auR K1_13
    ·refine AWA.one 11 [0, 1, 2, 3, 12, 13] [] (by decide +kernel) rfl rfl rfl (by decide +kernel) (by decide +kernel) (by decide +kernel) sS ?_
     refine na ?_
     refine ae rfl (fA fl46_0) ?_
     refine ae rfl (Qt.load1 rfl rfl rfl ag3) ?_
     refine ae rfl (fA fl46_1) ?_
     refine na ?_
     refine ae rfl (Qt.load1 rfl rfl rfl ag3) ?_
     refine ae rfl (fA fl46_10) ?_
     refine ae rfl (Qt.load1 rfl rfl rfl ag24) ?_
     refine na ?_
     exact auP K1_13
   ·refine AWA.one 10 [0, 1, 2, 3, 12, 13] [9, 7, 6, 8, 5, 4] (by decide +kernel) rfl rfl rfl (by decide +kernel) (by decide +kernel) (by decide +kernel) (by first | exact Stp.appendC rfl (by decide) (by decide) rfl rfl (by omega) | exact Stp.appendM rfl (by decide) (by decide) rfl rfl rfl (by omega)) ?_
    refine na ?_
    refine ae rfl (fA fl46_0) ?_
    refine ae rfl (Qt.load1 rfl rfl rfl ag3) ?_
    refine ae rfl (fA fl46_1) ?_
    refine na ?_
    refine ae rfl (Qt.load1 rfl rfl rfl ag3) ?_
    refine ae rfl (fA fl46_10) ?_
    refine ae rfl (Qt.load1 rfl rfl rfl ag24) ?_
    refine na ?_
    refine AWA.rep 18 (tr a.Ready) rfl (app_nil (α := Int)) ?_
    refine na ?_
    exact auP K1_13
  ·refine AWA.one 14 [0, 1, 2, 3] [13, 11, 10, 12, 9, 7, 6, 8, 5, 4] (by decide +kernel) rfl rfl rfl (by decide +kernel) (by decide +kernel) (by decide +kernel) (by first | exact Stp.appendC rfl (by decide) (by decide) rfl rfl (by omega) | exact Stp.appendM rfl (by decide) (by decide) rfl rfl rfl (by omega)) ?_
   refine na ?_
   refine ae rfl (fA fl46_0) ?_
   refine ae rfl (Qt.load1 rfl rfl rfl ag3) ?_
   refine ae rfl (fA fl46_1) ?_
   refine na ?_
   refine ae rfl (Qt.load1 rfl rfl rfl ag3) ?_
   refine na ?_
   refine AWA.rep 22 (tr a.Out) rfl (app_nil (α := Int)) ?_
   refine na ?_
   refine AWA.take 15 rfl rfl rfl (by decide +kernel) (.on rfl rfl (Qt.build rfl)) ?_
   refine na ?_
   exact auP K1_14
 ·refine AWA.one 17 [] [16, 15, 14, 13, 12, 11, 10, 9, 8, 7, 6, 5, 4, 3, 2, 1, 0] (by decide +kernel) rfl rfl rfl (by decide +kernel) (by decide +kernel) (by decide +kernel) (by first | exact Stp.storeA rfl rfl rfl rfl (by decide) rfl | exact Stp.store rfl rfl (by simp) rfl rfl rfl (by decide) rfl) ?_
  refine na ?_
  refine nz ?_
  refine sr2 ?_
  refine qn ?_
  refine AW.block ?_
  refine AW.weak (Weak.hoist 3 3 40 rfl (by decide) rfl rfl rfl) ?_
  refine AW.weak (Weak.hoist 3 4 56 rfl (by decide) rfl rfl rfl) ?_
  refine AW.weak (Weak.hoist 3 5 80 rfl (by decide) rfl rfl rfl) ?_
  refine AW.weak (Weak.hoist 3 6 106 rfl (by decide) rfl rfl rfl) ?_
  refine AW.weak (L' := (.sl 4 (.v (iv (0 : Nat))) :: .sl 2 (.p 2 [] 9 0 0) :: .sl 3 (.p 3 [] 9 0 0) :: .rt 1 .box (T.s 11 1 fun k c => ([(T.v (iv a.Next), none), (T.v (iv a.Tick), none), (T.j, none), (T.j, none), (T.j, none), (T.j, none), (T.j, none), (T.j, none), (T.j, none), (T.j, none), (T.j, none)].getD (k * 11 + c) (T.j, none)).fst) :: .al 1 2 (.h base []) :: .al 1 3 (.h (base + 1) []) :: .al 1 4 (.h (base + 2) []) :: .al 1 5 (.h (base + 3) []) :: .al 1 6 (.h (base + 4) []) :: .al 1 7 (.h (base + 5) []) :: .al 1 8 (.h (base + 6) []) :: .al 1 9 (.h (base + 7) []) :: .al 1 10 (.h (base + 8) []) :: .rt base .ro (tr a.Progs) :: .rt (base + 1) .ro (tr a.Procs) :: .rt (base + 2) .ro (tr a.Ram) :: .rt (base + 3) .ro (tr a.Heap.Free) :: .rt (base + 4) .ro (tr a.Opens) :: .rt (base + 5) .ro (tr a.Pipes) :: .rt (base + 6) .ro (tr a.Files) :: .rt (base + 7) .ro (tr a.Ready) :: .rt (base + 8) .ro (tr a.Out) :: .sl 1 (.p 1 [] 11 0 0) :: .rt 2 .box (T.s 9 1 fun _ c => [T.v (iv 0), T.v (iv 0), T.s 1 0 fun _ _ => T.j, T.s 10 0 fun _ _ => T.j, T.s 5 0 fun _ _ => T.j, T.s 2 0 fun _ _ => T.j, T.s 2 0 fun _ _ => T.j, T.s 1 0 fun _ _ => T.j, T.s 1 0 fun _ _ => T.j].getD c T.j) :: .rt 3 .box (T.s 9 1 fun _ c => [T.v (iv a.Next), T.v (iv a.Tick), T.j, T.j, T.j, T.j, T.j, T.j, T.j].getD c T.j) :: .al 3 2 (.h 14 []) :: .al 3 3 (.h 40 []) :: .al 3 4 (.h 56 []) :: .al 3 5 (.h 80 []) :: .al 3 6 (.h 106 []) :: .al 3 7 (.h 18 []) :: .al 3 8 (.h 22 []) :: .rt 14 .row (tr a.Progs) :: .rt 40 .row (tr (prK a (0 : Nat))) :: .rt 56 .row (tr (opK a 0)) :: .rt 80 .row (tr (piK a 0)) :: .rt 106 .row (tr (fiK a 0)) :: .rt 18 .row (tr a.Ready) :: .rt 22 .row (tr a.Out) :: [])) (Weak.sim ⟨rfl, rfl, rfl, Rf rfl, ⟨rfl, rfl⟩, ⟨rfl, rfl⟩, ⟨rfl, rfl⟩, ⟨rfl, rfl⟩, ⟨rfl, rfl⟩, ⟨rfl, rfl⟩, ⟨rfl, rfl⟩, ⟨rfl, rfl⟩, ⟨rfl, rfl⟩, Rf rfl, Rf rfl, Rf rfl, Rf rfl, Rf rfl, Rf rfl, Rf rfl, Rf rfl, Rf rfl, rfl, ⟨_, rfl, (sc_sim (n := 9) (fun c hc => match c, hc with | 0, _ => tsr | 1, _ => tsr | 2, _ => tsr | 3, _ => tsr | 4, _ => tsr | 5, _ => tsr | 6, _ => tsr | 7, _ => tsr | 8, _ => tsr | c + 9, hc => absurd hc (by omega)))⟩, ⟨_, rfl, (sc_sim (n := 9) (fun c hc => match c, hc with | 0, _ => tsr | 1, _ => tsr | 2, _ => tsr | 3, _ => tsr | 4, _ => tsr | 5, _ => tsr | 6, _ => tsr | 7, _ => tsr | 8, _ => tsr | c + 9, hc => absurd hc (by omega)))⟩, ⟨rfl, rfl⟩, ⟨rfl, rfl⟩, ⟨rfl, rfl⟩, ⟨rfl, rfl⟩, ⟨rfl, rfl⟩, ⟨rfl, rfl⟩, ⟨rfl, rfl⟩, Rf rfl, ⟨_, rfl, sim_nil⟩, ⟨_, rfl, sim_nil⟩, ⟨_, rfl, sim_nil⟩, ⟨_, rfl, sim_nil⟩, Rf rfl, Rf rfl, trivial⟩ rfl rfl) ?_
  refine AW.loop (fun i : KInv a.Procs.length => (.sl 4 (.v (iv i.k)) :: .sl 2 (.p 2 [] 9 0 0) :: .sl 3 (.p 3 [] 9 0 0) :: .rt 1 .box (T.s 11 1 fun k c => ([(T.v (iv a.Next), none), (T.v (iv a.Tick), none), (T.j, none), (T.j, none), (T.j, none), (T.j, none), (T.j, none), (T.j, none), (T.j, none), (T.j, none), (T.j, none)].getD (k * 11 + c) (T.j, none)).fst) :: .al 1 2 (.h base []) :: .al 1 3 (.h (base + 1) []) :: .al 1 4 (.h (base + 2) []) :: .al 1 5 (.h (base + 3) []) :: .al 1 6 (.h (base + 4) []) :: .al 1 7 (.h (base + 5) []) :: .al 1 8 (.h (base + 6) []) :: .al 1 9 (.h (base + 7) []) :: .al 1 10 (.h (base + 8) []) :: .rt base .ro (tr a.Progs) :: .rt (base + 1) .ro (tr a.Procs) :: .rt (base + 2) .ro (tr a.Ram) :: .rt (base + 3) .ro (tr a.Heap.Free) :: .rt (base + 4) .ro (tr a.Opens) :: .rt (base + 5) .ro (tr a.Pipes) :: .rt (base + 6) .ro (tr a.Files) :: .rt (base + 7) .ro (tr a.Ready) :: .rt (base + 8) .ro (tr a.Out) :: .sl 1 (.p 1 [] 11 0 0) :: .rt 2 .box (T.s 9 1 fun _ c => [T.v (iv 0), T.v (iv 0), T.s 1 0 fun _ _ => T.j, T.s 10 0 fun _ _ => T.j, T.s 5 0 fun _ _ => T.j, T.s 2 0 fun _ _ => T.j, T.s 2 0 fun _ _ => T.j, T.s 1 0 fun _ _ => T.j, T.s 1 0 fun _ _ => T.j].getD c T.j) :: .rt 3 .box (T.s 9 1 fun _ c => [T.v (iv a.Next), T.v (iv a.Tick), T.j, T.j, T.j, T.j, T.j, T.j, T.j].getD c T.j) :: .al 3 2 (.h 14 []) :: .al 3 3 (.h 40 []) :: .al 3 4 (.h 56 []) :: .al 3 5 (.h 80 []) :: .al 3 6 (.h 106 []) :: .al 3 7 (.h 18 []) :: .al 3 8 (.h 22 []) :: .rt 14 .row (tr a.Progs) :: .rt 40 .row (tr (prK a i.k)) :: .rt 56 .row (tr (opK a 0)) :: .rt 80 .row (tr (piK a 0)) :: .rt 106 .row (tr (fiK a 0)) :: .rt 18 .row (tr a.Ready) :: .rt 22 .row (tr a.Out) :: [])) (fun i => a.Procs.length - i.k) ⟨0, Nat.zero_le _⟩ ?_
  intro i
  have hle := i.le
  have hkl := prK_len (a := a) (k := i.k)
  refine sr2 ?_
  refine qm ?_
  refine qq (fA fl46_3) ?_
  refine nm ?_
  refine ql ag42 ?_
  refine qh sl42 ?_
  refine qb ?_
  refine nc (fun c1 => ?_) fun c1 => ?_
  ·try simp only [cnd] at c1
   have hlt : i.k < a.Procs.length := by omega
   have hik := wt_ge hlt
   have hik2 : Mk.wt (a.Procs.getD i.k En.dflt) = Mk.wt (a.Procs.getD i.k En.dflt).Cpu.Regs + Mk.wt (a.Procs.getD i.k En.dflt).Pages + Mk.wt (a.Procs.getD i.k En.dflt).Fds := rfl
   have hik3 := wt_ints (a.Procs.getD i.k En.dflt).Cpu.Regs
   have hik4 := wt_ints (a.Procs.getD i.k En.dflt).Pages
   have hik5 := wt_ints (a.Procs.getD i.k En.dflt).Fds
   refine jd (AW.seq (AW.block ?_))
   refine AW.draw [0, 1, 2, 3, 4, 5, 6, 7, 10] rfl (by decide +kernel) ?_
   refine tk 0 rfl (fA fl40_3) ?_
   refine na ?_
   refine tk 1 rfl (Qt.load1 rfl rfl rfl ag35) ?_
   refine tk 2 rfl (Qt.loadG rfl rfl rfl ag46 sz46 (by decide)) ?_
   refine tk 3 rfl (fA fl46_3) ?_
   refine na ?_
   refine tk 4 rfl (Qt.load1 rfl rfl rfl ag42) ?_
   refine tk 5 rfl Qt.move ?_
   refine tk 6 rfl (ix sl42 sz77) ?_
   refine na ?_
   refine tk 7 rfl (Qt.loadG rfl rfl rfl ag77 sz77 (by decide)) ?_
   refine a1 8 [0, 1] [7, 2, 6, 5, 4, 3] rfl rfl (Stp.callR rfl (by decide) Tryz.call97 rfl rfl (l16Proc_con a (a.Procs.getD i.k En.dflt) hS.ram (hS.fr i.k hlt) (by omega) (by omega) (by omega)) (nodup_of rfl) rfl rfl) ?_
   refine na ?_
   refine na ?_
   refine ae rfl (fA fl40_3) ?_
   refine na ?_
   refine ae rfl (Qt.load1 rfl rfl rfl ag35) ?_
   refine na ?_
   refine a1 9 [] [8, 1, 7, 2, 0, 6, 5, 4, 3] rfl rfl (Stp.callH rfl (by decide) Tryz.call96 rfl (insAllProc_con (prK a i.k) (procN a (a.Procs.getD i.k En.dflt)) (by omega)) rfl rfl rfl (nodup_of rfl) rfl rfl) ?_
   refine na ?_
   refine na ?_
   refine AWA.rep 40 (tr (prK a (i.k + 1))) rfl (by rw [prK_next hlt]; exact tsr) ?_
   refine na ?_
   refine tk 10 rfl (fA fl40_3) ?_
   refine a1 11 [] [10, 9, 8, 7, 6, 5, 4, 3, 2, 1, 0] rfl rfl (by first | exact Stp.storeA rfl rfl rfl rfl (by decide) rfl | exact Stp.store rfl rfl (by simp) rfl rfl rfl (by decide) rfl) ?_
   refine na ?_
   refine na ?_
   refine nz ?_
   refine AW.region ?_
   refine qm ?_
   refine ba ?_
   refine qn ?_
   refine ⟨⟨i.k + 1, by omega⟩, Weak.sim ⟨st1, rfl, rfl, Rf rfl, ⟨rfl, rfl⟩, ⟨rfl, rfl⟩, ⟨rfl, rfl⟩, ⟨rfl, rfl⟩, ⟨rfl, rfl⟩, ⟨rfl, rfl⟩, ⟨rfl, rfl⟩, ⟨rfl, rfl⟩, ⟨rfl, rfl⟩, Rf rfl, Rf rfl, Rf rfl, Rf rfl, Rf rfl, Rf rfl, Rf rfl, Rf rfl, Rf rfl, rfl, Rf rfl, ⟨_, rfl, (sc_sim (n := 9) (fun c hc => match c, hc with | 0, _ => tsr | 1, _ => tsr | 2, _ => tsr | 3, _ => tsr | 4, _ => tsr | 5, _ => tsr | 6, _ => tsr | 7, _ => tsr | 8, _ => tsr | c + 9, hc => absurd hc (by omega)))⟩, ⟨rfl, rfl⟩, ⟨rfl, rfl⟩, ⟨rfl, rfl⟩, ⟨rfl, rfl⟩, ⟨rfl, rfl⟩, ⟨rfl, rfl⟩, ⟨rfl, rfl⟩, Rf rfl, Rf rfl, Rf rfl, Rf rfl, Rf rfl, Rf rfl, Rf rfl, trivial⟩ rfl rfl, ?_⟩
   show a.Procs.length - (i.k + 1) < a.Procs.length - i.k
   omega
  try simp only [cnd] at c1
  refine AW.exit ?_
  dsimp only [thenQ, blockQ, reduceIte]
  refine sr2 ?_
  refine qn ?_
  refine AW.block ?_
  refine AW.rep 40 (tr (prK a a.Procs.length)) rfl (by rw [show i.k = a.Procs.length by omega]; exact tsr) ?_
  refine AW.weak (L' := (.sl 5 (.v (iv (0 : Nat))) :: .sl 2 (.p 2 [] 9 0 0) :: .sl 3 (.p 3 [] 9 0 0) :: .rt 1 .box (T.s 11 1 fun k c => ([(T.v (iv a.Next), none), (T.v (iv a.Tick), none), (T.j, none), (T.j, none), (T.j, none), (T.j, none), (T.j, none), (T.j, none), (T.j, none), (T.j, none), (T.j, none)].getD (k * 11 + c) (T.j, none)).fst) :: .al 1 2 (.h base []) :: .al 1 3 (.h (base + 1) []) :: .al 1 4 (.h (base + 2) []) :: .al 1 5 (.h (base + 3) []) :: .al 1 6 (.h (base + 4) []) :: .al 1 7 (.h (base + 5) []) :: .al 1 8 (.h (base + 6) []) :: .al 1 9 (.h (base + 7) []) :: .al 1 10 (.h (base + 8) []) :: .rt base .ro (tr a.Progs) :: .rt (base + 1) .ro (tr a.Procs) :: .rt (base + 2) .ro (tr a.Ram) :: .rt (base + 3) .ro (tr a.Heap.Free) :: .rt (base + 4) .ro (tr a.Opens) :: .rt (base + 5) .ro (tr a.Pipes) :: .rt (base + 6) .ro (tr a.Files) :: .rt (base + 7) .ro (tr a.Ready) :: .rt (base + 8) .ro (tr a.Out) :: .sl 1 (.p 1 [] 11 0 0) :: .rt 2 .box (T.s 9 1 fun _ c => [T.v (iv 0), T.v (iv 0), T.s 1 0 fun _ _ => T.j, T.s 10 0 fun _ _ => T.j, T.s 5 0 fun _ _ => T.j, T.s 2 0 fun _ _ => T.j, T.s 2 0 fun _ _ => T.j, T.s 1 0 fun _ _ => T.j, T.s 1 0 fun _ _ => T.j].getD c T.j) :: .rt 3 .box (T.s 9 1 fun _ c => [T.v (iv a.Next), T.v (iv a.Tick), T.j, T.j, T.j, T.j, T.j, T.j, T.j].getD c T.j) :: .al 3 2 (.h 14 []) :: .al 3 3 (.h 40 []) :: .al 3 4 (.h 56 []) :: .al 3 5 (.h 80 []) :: .al 3 6 (.h 106 []) :: .al 3 7 (.h 18 []) :: .al 3 8 (.h 22 []) :: .rt 14 .row (tr a.Progs) :: .rt 40 .row (tr (prK a a.Procs.length)) :: .rt 56 .row (tr (opK a (0 : Nat))) :: .rt 80 .row (tr (piK a 0)) :: .rt 106 .row (tr (fiK a 0)) :: .rt 18 .row (tr a.Ready) :: .rt 22 .row (tr a.Out) :: [])) (Weak.sim ⟨rfl, rfl, rfl, Rf rfl, ⟨rfl, rfl⟩, ⟨rfl, rfl⟩, ⟨rfl, rfl⟩, ⟨rfl, rfl⟩, ⟨rfl, rfl⟩, ⟨rfl, rfl⟩, ⟨rfl, rfl⟩, ⟨rfl, rfl⟩, ⟨rfl, rfl⟩, Rf rfl, Rf rfl, Rf rfl, Rf rfl, Rf rfl, Rf rfl, Rf rfl, Rf rfl, Rf rfl, rfl, ⟨_, rfl, (sc_sim (n := 9) (fun c hc => match c, hc with | 0, _ => tsr | 1, _ => tsr | 2, _ => tsr | 3, _ => tsr | 4, _ => tsr | 5, _ => tsr | 6, _ => tsr | 7, _ => tsr | 8, _ => tsr | c + 9, hc => absurd hc (by omega)))⟩, ⟨_, rfl, (sc_sim (n := 9) (fun c hc => match c, hc with | 0, _ => tsr | 1, _ => tsr | 2, _ => tsr | 3, _ => tsr | 4, _ => tsr | 5, _ => tsr | 6, _ => tsr | 7, _ => tsr | 8, _ => tsr | c + 9, hc => absurd hc (by omega)))⟩, ⟨rfl, rfl⟩, ⟨rfl, rfl⟩, ⟨rfl, rfl⟩, ⟨rfl, rfl⟩, ⟨rfl, rfl⟩, ⟨rfl, rfl⟩, ⟨rfl, rfl⟩, Rf rfl, Rf rfl, Rf rfl, Rf rfl, Rf rfl, Rf rfl, Rf rfl, trivial⟩ rfl rfl) ?_
  refine AW.loop (fun i : KInv a.Opens.length => (.sl 5 (.v (iv i.k)) :: .sl 2 (.p 2 [] 9 0 0) :: .sl 3 (.p 3 [] 9 0 0) :: .rt 1 .box (T.s 11 1 fun k c => ([(T.v (iv a.Next), none), (T.v (iv a.Tick), none), (T.j, none), (T.j, none), (T.j, none), (T.j, none), (T.j, none), (T.j, none), (T.j, none), (T.j, none), (T.j, none)].getD (k * 11 + c) (T.j, none)).fst) :: .al 1 2 (.h base []) :: .al 1 3 (.h (base + 1) []) :: .al 1 4 (.h (base + 2) []) :: .al 1 5 (.h (base + 3) []) :: .al 1 6 (.h (base + 4) []) :: .al 1 7 (.h (base + 5) []) :: .al 1 8 (.h (base + 6) []) :: .al 1 9 (.h (base + 7) []) :: .al 1 10 (.h (base + 8) []) :: .rt base .ro (tr a.Progs) :: .rt (base + 1) .ro (tr a.Procs) :: .rt (base + 2) .ro (tr a.Ram) :: .rt (base + 3) .ro (tr a.Heap.Free) :: .rt (base + 4) .ro (tr a.Opens) :: .rt (base + 5) .ro (tr a.Pipes) :: .rt (base + 6) .ro (tr a.Files) :: .rt (base + 7) .ro (tr a.Ready) :: .rt (base + 8) .ro (tr a.Out) :: .sl 1 (.p 1 [] 11 0 0) :: .rt 2 .box (T.s 9 1 fun _ c => [T.v (iv 0), T.v (iv 0), T.s 1 0 fun _ _ => T.j, T.s 10 0 fun _ _ => T.j, T.s 5 0 fun _ _ => T.j, T.s 2 0 fun _ _ => T.j, T.s 2 0 fun _ _ => T.j, T.s 1 0 fun _ _ => T.j, T.s 1 0 fun _ _ => T.j].getD c T.j) :: .rt 3 .box (T.s 9 1 fun _ c => [T.v (iv a.Next), T.v (iv a.Tick), T.j, T.j, T.j, T.j, T.j, T.j, T.j].getD c T.j) :: .al 3 2 (.h 14 []) :: .al 3 3 (.h 40 []) :: .al 3 4 (.h 56 []) :: .al 3 5 (.h 80 []) :: .al 3 6 (.h 106 []) :: .al 3 7 (.h 18 []) :: .al 3 8 (.h 22 []) :: .rt 14 .row (tr a.Progs) :: .rt 40 .row (tr (prK a a.Procs.length)) :: .rt 56 .row (tr (opK a i.k)) :: .rt 80 .row (tr (piK a 0)) :: .rt 106 .row (tr (fiK a 0)) :: .rt 18 .row (tr a.Ready) :: .rt 22 .row (tr a.Out) :: [])) (fun i => a.Opens.length - i.k) ⟨0, Nat.zero_le _⟩ ?_
  intro i
  have hle := i.le
  have hkl := opK_len (a := a) (k := i.k)
  refine sr2 ?_
  refine mn ?_
  refine qq (fA fl46_6) ?_
  refine ql ag36 ?_
  refine qh sl36 ?_
  refine nm ?_
  refine qb ?_
  refine nc (fun c2 => ?_) fun c2 => ?_
  ·try simp only [cnd] at c2
   have hlt : i.k < a.Opens.length := by omega
   have hik := wt_ge hlt
   refine jd (AW.seq (AW.block ?_))
   refine AW.draw [0, 1, 2, 3, 4, 5, 6, 8] rfl (by decide +kernel) ?_
   refine tk 0 rfl (fA fl40_4) ?_
   refine tk 1 rfl (Qt.load1 rfl rfl rfl ag36) ?_
   refine na ?_
   refine tk 2 rfl (fA fl46_6) ?_
   refine tk 3 rfl (Qt.load1 rfl rfl rfl ag36) ?_
   refine tk 4 rfl Qt.move ?_
   refine na ?_
   refine tk 5 rfl (ix sl36 sz72) ?_
   refine tk 6 rfl (Qt.loadG rfl rfl rfl ag72 sz72 (by decide)) ?_
   refine a1 7 [] [6, 1, 5, 0, 4, 3, 2] rfl rfl (Stp.callH rfl (by decide) Tryz.call98 rfl (insAllOpen_con (opK a i.k) (a.Opens.getD i.k En.dflt) (by omega)) rfl rfl rfl (nodup_of rfl) rfl rfl) ?_
   refine na ?_
   refine na ?_
   refine AWA.rep 56 (tr (opK a (i.k + 1))) rfl (by rw [opK_next hlt]; exact tsr) ?_
   refine na ?_
   refine tk 8 rfl (fA fl40_4) ?_
   refine a1 9 [] [8, 7, 6, 5, 4, 3, 2, 1, 0] rfl rfl (by first | exact Stp.storeA rfl rfl rfl rfl (by decide) rfl | exact Stp.store rfl rfl (by simp) rfl rfl rfl (by decide) rfl) ?_
   refine na ?_
   refine na ?_
   refine nz ?_
   refine AW.region ?_
   refine qm ?_
   refine ba ?_
   refine qn ?_
   refine ⟨⟨i.k + 1, by omega⟩, Weak.sim ⟨st1, rfl, rfl, Rf rfl, ⟨rfl, rfl⟩, ⟨rfl, rfl⟩, ⟨rfl, rfl⟩, ⟨rfl, rfl⟩, ⟨rfl, rfl⟩, ⟨rfl, rfl⟩, ⟨rfl, rfl⟩, ⟨rfl, rfl⟩, ⟨rfl, rfl⟩, Rf rfl, Rf rfl, Rf rfl, Rf rfl, Rf rfl, Rf rfl, Rf rfl, Rf rfl, Rf rfl, rfl, Rf rfl, ⟨_, rfl, (sc_sim (n := 9) (fun c hc => match c, hc with | 0, _ => tsr | 1, _ => tsr | 2, _ => tsr | 3, _ => tsr | 4, _ => tsr | 5, _ => tsr | 6, _ => tsr | 7, _ => tsr | 8, _ => tsr | c + 9, hc => absurd hc (by omega)))⟩, ⟨rfl, rfl⟩, ⟨rfl, rfl⟩, ⟨rfl, rfl⟩, ⟨rfl, rfl⟩, ⟨rfl, rfl⟩, ⟨rfl, rfl⟩, ⟨rfl, rfl⟩, Rf rfl, Rf rfl, Rf rfl, Rf rfl, Rf rfl, Rf rfl, Rf rfl, trivial⟩ rfl rfl, ?_⟩
   show a.Opens.length - (i.k + 1) < a.Opens.length - i.k
   omega
  try simp only [cnd] at c2
  refine AW.exit ?_
  dsimp only [thenQ, blockQ, reduceIte]
  refine sr2 ?_
  refine qn ?_
  refine AW.block ?_
  refine AW.rep 56 (tr (opK a a.Opens.length)) rfl (by rw [show i.k = a.Opens.length by omega]; exact tsr) ?_
  refine AW.weak (L' := (.sl 6 (.v (iv (0 : Nat))) :: .sl 2 (.p 2 [] 9 0 0) :: .sl 3 (.p 3 [] 9 0 0) :: .rt 1 .box (T.s 11 1 fun k c => ([(T.v (iv a.Next), none), (T.v (iv a.Tick), none), (T.j, none), (T.j, none), (T.j, none), (T.j, none), (T.j, none), (T.j, none), (T.j, none), (T.j, none), (T.j, none)].getD (k * 11 + c) (T.j, none)).fst) :: .al 1 2 (.h base []) :: .al 1 3 (.h (base + 1) []) :: .al 1 4 (.h (base + 2) []) :: .al 1 5 (.h (base + 3) []) :: .al 1 6 (.h (base + 4) []) :: .al 1 7 (.h (base + 5) []) :: .al 1 8 (.h (base + 6) []) :: .al 1 9 (.h (base + 7) []) :: .al 1 10 (.h (base + 8) []) :: .rt base .ro (tr a.Progs) :: .rt (base + 1) .ro (tr a.Procs) :: .rt (base + 2) .ro (tr a.Ram) :: .rt (base + 3) .ro (tr a.Heap.Free) :: .rt (base + 4) .ro (tr a.Opens) :: .rt (base + 5) .ro (tr a.Pipes) :: .rt (base + 6) .ro (tr a.Files) :: .rt (base + 7) .ro (tr a.Ready) :: .rt (base + 8) .ro (tr a.Out) :: .sl 1 (.p 1 [] 11 0 0) :: .rt 2 .box (T.s 9 1 fun _ c => [T.v (iv 0), T.v (iv 0), T.s 1 0 fun _ _ => T.j, T.s 10 0 fun _ _ => T.j, T.s 5 0 fun _ _ => T.j, T.s 2 0 fun _ _ => T.j, T.s 2 0 fun _ _ => T.j, T.s 1 0 fun _ _ => T.j, T.s 1 0 fun _ _ => T.j].getD c T.j) :: .rt 3 .box (T.s 9 1 fun _ c => [T.v (iv a.Next), T.v (iv a.Tick), T.j, T.j, T.j, T.j, T.j, T.j, T.j].getD c T.j) :: .al 3 2 (.h 14 []) :: .al 3 3 (.h 40 []) :: .al 3 4 (.h 56 []) :: .al 3 5 (.h 80 []) :: .al 3 6 (.h 106 []) :: .al 3 7 (.h 18 []) :: .al 3 8 (.h 22 []) :: .rt 14 .row (tr a.Progs) :: .rt 40 .row (tr (prK a a.Procs.length)) :: .rt 56 .row (tr (opK a a.Opens.length)) :: .rt 80 .row (tr (piK a (0 : Nat))) :: .rt 106 .row (tr (fiK a 0)) :: .rt 18 .row (tr a.Ready) :: .rt 22 .row (tr a.Out) :: [])) (Weak.sim ⟨rfl, rfl, rfl, Rf rfl, ⟨rfl, rfl⟩, ⟨rfl, rfl⟩, ⟨rfl, rfl⟩, ⟨rfl, rfl⟩, ⟨rfl, rfl⟩, ⟨rfl, rfl⟩, ⟨rfl, rfl⟩, ⟨rfl, rfl⟩, ⟨rfl, rfl⟩, Rf rfl, Rf rfl, Rf rfl, Rf rfl, Rf rfl, Rf rfl, Rf rfl, Rf rfl, Rf rfl, rfl, ⟨_, rfl, (sc_sim (n := 9) (fun c hc => match c, hc with | 0, _ => tsr | 1, _ => tsr | 2, _ => tsr | 3, _ => tsr | 4, _ => tsr | 5, _ => tsr | 6, _ => tsr | 7, _ => tsr | 8, _ => tsr | c + 9, hc => absurd hc (by omega)))⟩, ⟨_, rfl, (sc_sim (n := 9) (fun c hc => match c, hc with | 0, _ => tsr | 1, _ => tsr | 2, _ => tsr | 3, _ => tsr | 4, _ => tsr | 5, _ => tsr | 6, _ => tsr | 7, _ => tsr | 8, _ => tsr | c + 9, hc => absurd hc (by omega)))⟩, ⟨rfl, rfl⟩, ⟨rfl, rfl⟩, ⟨rfl, rfl⟩, ⟨rfl, rfl⟩, ⟨rfl, rfl⟩, ⟨rfl, rfl⟩, ⟨rfl, rfl⟩, Rf rfl, Rf rfl, Rf rfl, Rf rfl, Rf rfl, Rf rfl, Rf rfl, trivial⟩ rfl rfl) ?_
  refine AW.loop (fun i : KInv a.Pipes.length => (.sl 6 (.v (iv i.k)) :: .sl 2 (.p 2 [] 9 0 0) :: .sl 3 (.p 3 [] 9 0 0) :: .rt 1 .box (T.s 11 1 fun k c => ([(T.v (iv a.Next), none), (T.v (iv a.Tick), none), (T.j, none), (T.j, none), (T.j, none), (T.j, none), (T.j, none), (T.j, none), (T.j, none), (T.j, none), (T.j, none)].getD (k * 11 + c) (T.j, none)).fst) :: .al 1 2 (.h base []) :: .al 1 3 (.h (base + 1) []) :: .al 1 4 (.h (base + 2) []) :: .al 1 5 (.h (base + 3) []) :: .al 1 6 (.h (base + 4) []) :: .al 1 7 (.h (base + 5) []) :: .al 1 8 (.h (base + 6) []) :: .al 1 9 (.h (base + 7) []) :: .al 1 10 (.h (base + 8) []) :: .rt base .ro (tr a.Progs) :: .rt (base + 1) .ro (tr a.Procs) :: .rt (base + 2) .ro (tr a.Ram) :: .rt (base + 3) .ro (tr a.Heap.Free) :: .rt (base + 4) .ro (tr a.Opens) :: .rt (base + 5) .ro (tr a.Pipes) :: .rt (base + 6) .ro (tr a.Files) :: .rt (base + 7) .ro (tr a.Ready) :: .rt (base + 8) .ro (tr a.Out) :: .sl 1 (.p 1 [] 11 0 0) :: .rt 2 .box (T.s 9 1 fun _ c => [T.v (iv 0), T.v (iv 0), T.s 1 0 fun _ _ => T.j, T.s 10 0 fun _ _ => T.j, T.s 5 0 fun _ _ => T.j, T.s 2 0 fun _ _ => T.j, T.s 2 0 fun _ _ => T.j, T.s 1 0 fun _ _ => T.j, T.s 1 0 fun _ _ => T.j].getD c T.j) :: .rt 3 .box (T.s 9 1 fun _ c => [T.v (iv a.Next), T.v (iv a.Tick), T.j, T.j, T.j, T.j, T.j, T.j, T.j].getD c T.j) :: .al 3 2 (.h 14 []) :: .al 3 3 (.h 40 []) :: .al 3 4 (.h 56 []) :: .al 3 5 (.h 80 []) :: .al 3 6 (.h 106 []) :: .al 3 7 (.h 18 []) :: .al 3 8 (.h 22 []) :: .rt 14 .row (tr a.Progs) :: .rt 40 .row (tr (prK a a.Procs.length)) :: .rt 56 .row (tr (opK a a.Opens.length)) :: .rt 80 .row (tr (piK a i.k)) :: .rt 106 .row (tr (fiK a 0)) :: .rt 18 .row (tr a.Ready) :: .rt 22 .row (tr a.Out) :: [])) (fun i => a.Pipes.length - i.k) ⟨0, Nat.zero_le _⟩ ?_
  intro i
  have hle := i.le
  have hkl := piK_len (a := a) (k := i.k)
  refine sr2 ?_
  refine mn ?_
  refine qq (fA fl46_7) ?_
  refine ql ag44 ?_
  refine qh sl44 ?_
  refine nm ?_
  refine qb ?_
  refine nc (fun c3 => ?_) fun c3 => ?_
  ·try simp only [cnd] at c3
   have hlt : i.k < a.Pipes.length := by omega
   have hik := wt_ge hlt
   have hik2 : Mk.wt (a.Pipes.getD i.k En.dflt) = Mk.wt (a.Pipes.getD i.k En.dflt).Chunks := rfl
   refine jd (AW.seq (AW.block ?_))
   refine AW.draw [0, 1, 2, 3, 4, 5, 6, 7, 8, 9, 10, 11, 12, 14, 16] rfl (by decide +kernel) ?_
   refine tk 0 rfl (fA fl40_5) ?_
   refine tk 1 rfl (Qt.load1 rfl rfl rfl ag37) ?_
   refine na ?_
   refine tk 2 rfl (fA fl46_7) ?_
   refine tk 3 rfl (Qt.load1 rfl rfl rfl ag44) ?_
   refine tk 4 rfl Qt.move ?_
   refine na ?_
   refine tk 5 rfl (ix sl44 sz83) ?_
   refine tk 6 rfl (fA fl83_0) ?_
   refine tk 7 rfl (Qt.load1 rfl rfl rfl ag3) ?_
   refine na ?_
   refine tk 8 rfl (fA fl46_7) ?_
   refine tk 9 rfl (Qt.load1 rfl rfl rfl ag44) ?_
   refine tk 10 rfl Qt.move ?_
   refine na ?_
   refine tk 11 rfl (ix sl44 sz83) ?_
   refine tk 12 rfl (Qt.loadG rfl rfl rfl ag83 sz83 (by decide)) ?_
   refine a1 13 [0, 1, 2, 3, 4, 5, 6, 7] [12, 11, 10, 9, 8] rfl rfl (Stp.callR rfl (by decide) Tryz.call100 rfl rfl (l16Words_con (a.Pipes.getD i.k En.dflt) (by omega)) (nodup_of rfl) rfl rfl) ?_
   refine na ?_
   refine na ?_
   refine ae rfl (fA fl40_5) ?_
   refine na ?_
   refine ae rfl (Qt.load1 rfl rfl rfl ag37) ?_
   refine na ?_
   refine ae rfl (fA fl46_7) ?_
   refine na ?_
   refine ae rfl (Qt.load1 rfl rfl rfl ag44) ?_
   refine na ?_
   refine ae rfl Qt.move ?_
   refine na ?_
   refine ae rfl (ix sl44 sz83) ?_
   refine na ?_
   refine ae rfl (fA fl83_0) ?_
   refine na ?_
   refine ae rfl (Qt.load1 rfl rfl rfl ag3) ?_
   refine na ?_
   refine tk 14 rfl (Qt.build rfl) ?_
   refine a1 15 [] [14, 13, 1, 7, 12, 0, 6, 11, 5, 10, 9, 4, 3, 8, 2] rfl rfl (Stp.callH rfl (by decide) Tryz.call99 rfl (insAllPipe_con (piK a i.k) (pipeN (a.Pipes.getD i.k En.dflt)) (by omega)) rfl rfl rfl (nodup_of rfl) rfl rfl) ?_
   refine na ?_
   refine na ?_
   refine AWA.rep 80 (tr (piK a (i.k + 1))) rfl (by rw [piK_next hlt]; exact tsr) ?_
   refine na ?_
   refine tk 16 rfl (fA fl40_5) ?_
   refine a1 17 [] [16, 15, 14, 13, 12, 11, 10, 9, 8, 7, 6, 5, 4, 3, 2, 1, 0] rfl rfl (by first | exact Stp.storeA rfl rfl rfl rfl (by decide) rfl | exact Stp.store rfl rfl (by simp) rfl rfl rfl (by decide) rfl) ?_
   refine na ?_
   refine na ?_
   refine nz ?_
   refine AW.region ?_
   refine qm ?_
   refine ba ?_
   refine qn ?_
   refine ⟨⟨i.k + 1, by omega⟩, Weak.sim ⟨st1, rfl, rfl, Rf rfl, ⟨rfl, rfl⟩, ⟨rfl, rfl⟩, ⟨rfl, rfl⟩, ⟨rfl, rfl⟩, ⟨rfl, rfl⟩, ⟨rfl, rfl⟩, ⟨rfl, rfl⟩, ⟨rfl, rfl⟩, ⟨rfl, rfl⟩, Rf rfl, Rf rfl, Rf rfl, Rf rfl, Rf rfl, Rf rfl, Rf rfl, Rf rfl, Rf rfl, rfl, Rf rfl, ⟨_, rfl, (sc_sim (n := 9) (fun c hc => match c, hc with | 0, _ => tsr | 1, _ => tsr | 2, _ => tsr | 3, _ => tsr | 4, _ => tsr | 5, _ => tsr | 6, _ => tsr | 7, _ => tsr | 8, _ => tsr | c + 9, hc => absurd hc (by omega)))⟩, ⟨rfl, rfl⟩, ⟨rfl, rfl⟩, ⟨rfl, rfl⟩, ⟨rfl, rfl⟩, ⟨rfl, rfl⟩, ⟨rfl, rfl⟩, ⟨rfl, rfl⟩, Rf rfl, Rf rfl, Rf rfl, Rf rfl, Rf rfl, Rf rfl, Rf rfl, trivial⟩ rfl rfl, ?_⟩
   show a.Pipes.length - (i.k + 1) < a.Pipes.length - i.k
   omega
  try simp only [cnd] at c3
  refine AW.exit ?_
  dsimp only [thenQ, blockQ, reduceIte]
  refine sr2 ?_
  refine qn ?_
  refine AW.block ?_
  refine AW.rep 80 (tr (piK a a.Pipes.length)) rfl (by rw [show i.k = a.Pipes.length by omega]; exact tsr) ?_
  refine AW.weak (L' := (.sl 7 (.v (iv (0 : Nat))) :: .sl 2 (.p 2 [] 9 0 0) :: .sl 3 (.p 3 [] 9 0 0) :: .rt 1 .box (T.s 11 1 fun k c => ([(T.v (iv a.Next), none), (T.v (iv a.Tick), none), (T.j, none), (T.j, none), (T.j, none), (T.j, none), (T.j, none), (T.j, none), (T.j, none), (T.j, none), (T.j, none)].getD (k * 11 + c) (T.j, none)).fst) :: .al 1 2 (.h base []) :: .al 1 3 (.h (base + 1) []) :: .al 1 4 (.h (base + 2) []) :: .al 1 5 (.h (base + 3) []) :: .al 1 6 (.h (base + 4) []) :: .al 1 7 (.h (base + 5) []) :: .al 1 8 (.h (base + 6) []) :: .al 1 9 (.h (base + 7) []) :: .al 1 10 (.h (base + 8) []) :: .rt base .ro (tr a.Progs) :: .rt (base + 1) .ro (tr a.Procs) :: .rt (base + 2) .ro (tr a.Ram) :: .rt (base + 3) .ro (tr a.Heap.Free) :: .rt (base + 4) .ro (tr a.Opens) :: .rt (base + 5) .ro (tr a.Pipes) :: .rt (base + 6) .ro (tr a.Files) :: .rt (base + 7) .ro (tr a.Ready) :: .rt (base + 8) .ro (tr a.Out) :: .sl 1 (.p 1 [] 11 0 0) :: .rt 2 .box (T.s 9 1 fun _ c => [T.v (iv 0), T.v (iv 0), T.s 1 0 fun _ _ => T.j, T.s 10 0 fun _ _ => T.j, T.s 5 0 fun _ _ => T.j, T.s 2 0 fun _ _ => T.j, T.s 2 0 fun _ _ => T.j, T.s 1 0 fun _ _ => T.j, T.s 1 0 fun _ _ => T.j].getD c T.j) :: .rt 3 .box (T.s 9 1 fun _ c => [T.v (iv a.Next), T.v (iv a.Tick), T.j, T.j, T.j, T.j, T.j, T.j, T.j].getD c T.j) :: .al 3 2 (.h 14 []) :: .al 3 3 (.h 40 []) :: .al 3 4 (.h 56 []) :: .al 3 5 (.h 80 []) :: .al 3 6 (.h 106 []) :: .al 3 7 (.h 18 []) :: .al 3 8 (.h 22 []) :: .rt 14 .row (tr a.Progs) :: .rt 40 .row (tr (prK a a.Procs.length)) :: .rt 56 .row (tr (opK a a.Opens.length)) :: .rt 80 .row (tr (piK a a.Pipes.length)) :: .rt 106 .row (tr (fiK a (0 : Nat))) :: .rt 18 .row (tr a.Ready) :: .rt 22 .row (tr a.Out) :: [])) (Weak.sim ⟨rfl, rfl, rfl, Rf rfl, ⟨rfl, rfl⟩, ⟨rfl, rfl⟩, ⟨rfl, rfl⟩, ⟨rfl, rfl⟩, ⟨rfl, rfl⟩, ⟨rfl, rfl⟩, ⟨rfl, rfl⟩, ⟨rfl, rfl⟩, ⟨rfl, rfl⟩, Rf rfl, Rf rfl, Rf rfl, Rf rfl, Rf rfl, Rf rfl, Rf rfl, Rf rfl, Rf rfl, rfl, ⟨_, rfl, (sc_sim (n := 9) (fun c hc => match c, hc with | 0, _ => tsr | 1, _ => tsr | 2, _ => tsr | 3, _ => tsr | 4, _ => tsr | 5, _ => tsr | 6, _ => tsr | 7, _ => tsr | 8, _ => tsr | c + 9, hc => absurd hc (by omega)))⟩, ⟨_, rfl, (sc_sim (n := 9) (fun c hc => match c, hc with | 0, _ => tsr | 1, _ => tsr | 2, _ => tsr | 3, _ => tsr | 4, _ => tsr | 5, _ => tsr | 6, _ => tsr | 7, _ => tsr | 8, _ => tsr | c + 9, hc => absurd hc (by omega)))⟩, ⟨rfl, rfl⟩, ⟨rfl, rfl⟩, ⟨rfl, rfl⟩, ⟨rfl, rfl⟩, ⟨rfl, rfl⟩, ⟨rfl, rfl⟩, ⟨rfl, rfl⟩, Rf rfl, Rf rfl, Rf rfl, Rf rfl, Rf rfl, Rf rfl, Rf rfl, trivial⟩ rfl rfl) ?_
  refine AW.loop (fun i : KInv a.Files.length => (.sl 7 (.v (iv i.k)) :: .sl 2 (.p 2 [] 9 0 0) :: .sl 3 (.p 3 [] 9 0 0) :: .rt 1 .box (T.s 11 1 fun k c => ([(T.v (iv a.Next), none), (T.v (iv a.Tick), none), (T.j, none), (T.j, none), (T.j, none), (T.j, none), (T.j, none), (T.j, none), (T.j, none), (T.j, none), (T.j, none)].getD (k * 11 + c) (T.j, none)).fst) :: .al 1 2 (.h base []) :: .al 1 3 (.h (base + 1) []) :: .al 1 4 (.h (base + 2) []) :: .al 1 5 (.h (base + 3) []) :: .al 1 6 (.h (base + 4) []) :: .al 1 7 (.h (base + 5) []) :: .al 1 8 (.h (base + 6) []) :: .al 1 9 (.h (base + 7) []) :: .al 1 10 (.h (base + 8) []) :: .rt base .ro (tr a.Progs) :: .rt (base + 1) .ro (tr a.Procs) :: .rt (base + 2) .ro (tr a.Ram) :: .rt (base + 3) .ro (tr a.Heap.Free) :: .rt (base + 4) .ro (tr a.Opens) :: .rt (base + 5) .ro (tr a.Pipes) :: .rt (base + 6) .ro (tr a.Files) :: .rt (base + 7) .ro (tr a.Ready) :: .rt (base + 8) .ro (tr a.Out) :: .sl 1 (.p 1 [] 11 0 0) :: .rt 2 .box (T.s 9 1 fun _ c => [T.v (iv 0), T.v (iv 0), T.s 1 0 fun _ _ => T.j, T.s 10 0 fun _ _ => T.j, T.s 5 0 fun _ _ => T.j, T.s 2 0 fun _ _ => T.j, T.s 2 0 fun _ _ => T.j, T.s 1 0 fun _ _ => T.j, T.s 1 0 fun _ _ => T.j].getD c T.j) :: .rt 3 .box (T.s 9 1 fun _ c => [T.v (iv a.Next), T.v (iv a.Tick), T.j, T.j, T.j, T.j, T.j, T.j, T.j].getD c T.j) :: .al 3 2 (.h 14 []) :: .al 3 3 (.h 40 []) :: .al 3 4 (.h 56 []) :: .al 3 5 (.h 80 []) :: .al 3 6 (.h 106 []) :: .al 3 7 (.h 18 []) :: .al 3 8 (.h 22 []) :: .rt 14 .row (tr a.Progs) :: .rt 40 .row (tr (prK a a.Procs.length)) :: .rt 56 .row (tr (opK a a.Opens.length)) :: .rt 80 .row (tr (piK a a.Pipes.length)) :: .rt 106 .row (tr (fiK a i.k)) :: .rt 18 .row (tr a.Ready) :: .rt 22 .row (tr a.Out) :: [])) (fun i => a.Files.length - i.k) ⟨0, Nat.zero_le _⟩ ?_
  intro i
  have hle := i.le
  have hkl := fiK_len (a := a) (k := i.k)
  refine sr2 ?_
  refine mn ?_
  refine qq (fA fl46_8) ?_
  refine ql ag38 ?_
  refine qh sl38 ?_
  refine nm ?_
  refine qb ?_
  refine nc (fun c4 => ?_) fun c4 => ?_
  ·try simp only [cnd] at c4
   have hlt : i.k < a.Files.length := by omega
   have hik := wt_ge hlt
   have hik2 : Mk.wt (a.Files.getD i.k En.dflt) = (a.Files.getD i.k En.dflt).Data.length := wt_ints _
   refine jd (AW.seq (AW.block ?_))
   refine AW.draw [0, 1, 2, 3, 4, 5, 6, 7, 9, 10, 11, 12, 13, 14, 16, 18] rfl (by decide +kernel) ?_
   refine tk 0 rfl (fA fl40_6) ?_
   refine tk 1 rfl (Qt.load1 rfl rfl rfl ag38) ?_
   refine na ?_
   refine tk 2 rfl (fA fl46_8) ?_
   refine tk 3 rfl (Qt.load1 rfl rfl rfl ag38) ?_
   refine tk 4 rfl Qt.move ?_
   refine na ?_
   refine tk 5 rfl (ix sl38 sz96) ?_
   refine tk 6 rfl (fA fl96_0) ?_
   refine tk 7 rfl (Qt.load1 rfl rfl rfl ag3) ?_
   refine na ?_
   refine tk 9 rfl (fA fl46_8) ?_
   refine tk 10 rfl (Qt.load1 rfl rfl rfl ag38) ?_
   refine tk 11 rfl Qt.move ?_
   refine na ?_
   refine tk 12 rfl (ix sl38 sz96) ?_
   refine tk 13 rfl (fA fl96_1) ?_
   refine tk 14 rfl (Qt.load1 rfl rfl rfl ag24) ?_
   refine na ?_
   refine a1 8 [0, 1, 2, 3, 4, 5, 6, 7, 9, 10, 11, 12, 13, 14] [] rfl rfl sS ?_
   refine na ?_
   refine na ?_
   refine ae rfl (fA fl40_6) ?_
   refine na ?_
   refine ae rfl (Qt.load1 rfl rfl rfl ag38) ?_
   refine na ?_
   refine ae rfl (fA fl46_8) ?_
   refine na ?_
   refine ae rfl (Qt.load1 rfl rfl rfl ag38) ?_
   refine na ?_
   refine ae rfl Qt.move ?_
   refine na ?_
   refine ae rfl (ix sl38 sz96) ?_
   refine na ?_
   refine ae rfl (fA fl96_0) ?_
   refine na ?_
   refine ae rfl (Qt.load1 rfl rfl rfl ag3) ?_
   refine na ?_
   refine ae rfl (fA fl46_8) ?_
   refine na ?_
   refine ae rfl (Qt.load1 rfl rfl rfl ag38) ?_
   refine na ?_
   refine ae rfl Qt.move ?_
   refine na ?_
   refine ae rfl (ix sl38 sz96) ?_
   refine na ?_
   refine ae rfl (fA fl96_1) ?_
   refine na ?_
   refine ae rfl (Qt.load1 rfl rfl rfl ag24) ?_
   refine na ?_
   refine a1 15 [0, 1, 2, 3, 4, 5, 6, 7] [14, 8, 13, 12, 11, 10, 9] rfl rfl (by first | exact Stp.appendC rfl (by decide) (by decide) rfl rfl (by omega) | exact Stp.appendM rfl (by decide) (by decide) rfl rfl rfl (by omega)) ?_
   refine na ?_
   refine na ?_
   refine ae rfl (fA fl40_6) ?_
   refine na ?_
   refine ae rfl (Qt.load1 rfl rfl rfl ag38) ?_
   refine na ?_
   refine ae rfl (fA fl46_8) ?_
   refine na ?_
   refine ae rfl (Qt.load1 rfl rfl rfl ag38) ?_
   refine na ?_
   refine ae rfl Qt.move ?_
   refine na ?_
   refine ae rfl (ix sl38 sz96) ?_
   refine na ?_
   refine ae rfl (fA fl96_0) ?_
   refine na ?_
   refine ae rfl (Qt.load1 rfl rfl rfl ag3) ?_
   refine na ?_
   refine AWA.rep 104 (tr (a.Files.getD i.k En.dflt).Data) rfl (app_nil (α := Int)) ?_
   refine na ?_
   refine tk 16 rfl (Qt.build rfl) ?_
   refine a1 17 [] [16, 15, 1, 7, 14, 8, 0, 6, 13, 5, 12, 4, 3, 11, 10, 2, 9] rfl rfl (Stp.callH rfl (by decide) Tryz.call101 rfl (insAllFile_con (fiK a i.k) (a.Files.getD i.k En.dflt) (by omega)) rfl rfl rfl (nodup_of rfl) rfl rfl) ?_
   refine na ?_
   refine na ?_
   refine AWA.rep 106 (tr (fiK a (i.k + 1))) rfl (by rw [fiK_next hlt]; exact tsr) ?_
   refine na ?_
   refine tk 18 rfl (fA fl40_6) ?_
   refine a1 19 [] [18, 17, 16, 15, 14, 13, 12, 11, 10, 9, 8, 7, 6, 5, 4, 3, 2, 1, 0] rfl rfl (by first | exact Stp.storeA rfl rfl rfl rfl (by decide) rfl | exact Stp.store rfl rfl (by simp) rfl rfl rfl (by decide) rfl) ?_
   refine na ?_
   refine na ?_
   refine nz ?_
   refine AW.region ?_
   refine qm ?_
   refine ba ?_
   refine qn ?_
   refine ⟨⟨i.k + 1, by omega⟩, Weak.sim ⟨st1, rfl, rfl, Rf rfl, ⟨rfl, rfl⟩, ⟨rfl, rfl⟩, ⟨rfl, rfl⟩, ⟨rfl, rfl⟩, ⟨rfl, rfl⟩, ⟨rfl, rfl⟩, ⟨rfl, rfl⟩, ⟨rfl, rfl⟩, ⟨rfl, rfl⟩, Rf rfl, Rf rfl, Rf rfl, Rf rfl, Rf rfl, Rf rfl, Rf rfl, Rf rfl, Rf rfl, rfl, Rf rfl, ⟨_, rfl, (sc_sim (n := 9) (fun c hc => match c, hc with | 0, _ => tsr | 1, _ => tsr | 2, _ => tsr | 3, _ => tsr | 4, _ => tsr | 5, _ => tsr | 6, _ => tsr | 7, _ => tsr | 8, _ => tsr | c + 9, hc => absurd hc (by omega)))⟩, ⟨rfl, rfl⟩, ⟨rfl, rfl⟩, ⟨rfl, rfl⟩, ⟨rfl, rfl⟩, ⟨rfl, rfl⟩, ⟨rfl, rfl⟩, ⟨rfl, rfl⟩, Rf rfl, Rf rfl, Rf rfl, Rf rfl, Rf rfl, Rf rfl, Rf rfl, trivial⟩ rfl rfl, ?_⟩
   show a.Files.length - (i.k + 1) < a.Files.length - i.k
   omega
  try simp only [cnd] at c4
  refine AW.rep 106 (tr (fiK a a.Files.length)) rfl (by rw [show i.k = a.Files.length by omega]; exact tsr) ?_
  refine AW.exit ?_
  dsimp only [thenQ, blockQ, reduceIte]
  refine sr ?_
  refine qG ag40 sz40 ?_
  refine nm ?_
  refine ss ?_
  refine nl ?_
  refine AW.ret (endQ_ret (.cons (.cellG 2 40 rfl rfl rfl ag40 sz40 (by decide)) .nil) ?_)
  refine ⟨fun i => if i = 0 then 14 else if i = 1 then 40 else if i = 2 then 56 else if i = 3 then 80 else if i = 4 then 106 else if i = 5 then 18 else 22, rfl, nodup_of rfl, ?_⟩
  intro r hr
  simp only [List.mem_cons, List.not_mem_nil, or_false] at hr
  rcases hr with rfl | rfl | rfl | rfl | rfl | rfl | rfl <;> exact ⟨by simp, rootL_mem rfl⟩
end Go.Proofs.YtekcnnngjoonbaaGreat.VM
