/- Contracts. No conditions. -/
import Derived.Test.YtldefnpobjabpaaGreatCQ7
set_option linter.all false
set_option maxHeartbeats 8000000
set_option maxRecDepth 10000
namespace Go.Proofs.YtldefnpobjabpaaGreat.VM
open Go Go.RowKit Go.Proofs
/-- the process that a slot holds -/
def procP (a : DArrays) (s : DASlot) : DProc := { Pid := s.Pid, Parent := s.Parent, State := s.State, Prog := s.Prog, Cpu := { Pc := s.Pc, Regs := s.Regs }, Mem := memK a.Ram s.Pt (pagesN s.Pt), Fds := s.Fds, Until := s.Until, Code := s.Code }
theorem sc_sim {n : Nat} {f : Nat → Nat → T} {l : List T} (h : ∀ c, c < n → (f 0 c).sim (l.getD c .j)) : (T.s n 1 f).sim (T.s n 1 fun _ c => l.getD c .j) := by
 refine ⟨_, rfl, fun k c hk hc => ?_⟩
 obtain rfl : k = 0 := by omega
 exact h c hc
theorem memK_pages (ram pt : List Int) : memK ram (pt.takeWhile isFr) (pt.takeWhile isFr).length = memK ram pt (pagesN pt) := by
 unfold memK
 rw [List.take_of_length_le (Nat.le_refl _), pages_take]
theorem pages_bd {l : List Int} {k : Nat} (h : k < pagesN l) : 0 ≤ l.getD k En.dflt ∧ l.getD k En.dflt ≤ 15 := by
 have := pages_get h
 simpa [isFr] using this
theorem l12Proc_con (a : DArrays) (s : DASlot) (hr : a.Ram.length = 64) (hp : s.Pt.length ≤ 1000) (h1 : s.Regs.length ≤ 1000) (h2 : s.Fds.length ≤ 1000) : Con Tryz.prog 116 [.g [.v (iv a.Next), .v (iv a.Tick), .h base [], .h (base + 1) [], .h (base + 2) [], .h (base + 3) [], .h (base + 4) [], .h (base + 5) [], .h (base + 6) [], .v (.bool a.Ready.Used), .h (base + 7) [], .v (iv a.Ready.Head), .v (iv a.Ready.Len), .h (base + 8) []], .g [.v (.bool s.Used), .v (iv s.Pid), .v (iv s.Parent), .v (iv s.State), .v (iv s.Prog), .v (iv s.Pc), .v (iv s.Until), .v (iv s.Code), .h (base + 9) [], .h (base + 10) [], .h (base + 11) []]] [.rt base .ro (tr a.Progs), .rt (base + 1) .ro (tr a.Slots), .rt (base + 2) .ro (tr a.Ram), .rt (base + 3) .ro (tr a.Map), .rt (base + 4) .ro (tr a.Opens), .rt (base + 5) .ro (tr a.Pipes), .rt (base + 6) .ro (tr a.Files), .rt (base + 7) .ro (tr a.Ready.Buf), .rt (base + 8) .ro (tr a.Out), .rt (base + 9) .ro (tr s.Regs), .rt (base + 10) .ro (tr s.Pt), .rt (base + 11) .ro (tr s.Fds)] (Ret (.g [.v (iv (procP a s).Pid), .v (iv (procP a s).Parent), .v (iv (procP a s).State), .v (iv (procP a s).Prog), .v (iv (procP a s).Cpu.Pc), .h 0 [], .h 1 [], .h 2 [], .v (iv (procP a s).Until), .v (iv (procP a s).Code)]) [(0, .row, tr (procP a s).Cpu.Regs), (1, .row, tr (procP a s).Mem), (2, .row, tr (procP a s).Fds)]) := by
 refine ob Tryz.func116 Tryz.ntmps116 ?_
 have hpl := pagesN_le s.Pt
 refine go [.R,.B,.N,.B,.N,.A,.Z] (k := ?_)
 refine AW.seq ?_
 refine go [.D [0, 1, 2, 3, 4, 5, 6, 7, 8, 9, 10, 11, 12, 13, 15, 16, 18, 20, 21, 23],.t 0,.f,.N,.t 1,.l,.t 2,.f,.t 3,.l,.N,.t 4,.f,.t 5,.l,.t 6,.f,.N,.t 7,.l,.t 8,.f,.t 9,.l,.N,.t 10,.f,.t 11,.l,.t 12,.f,.N,.t 13,.l,.t 15,.f,.t 16,.l,.N,.t 20,.f,.t 21,.l] (k := ?_)
 apply AWA.cutS #[true, true, true, true, true, true, true, true, true, true, true, true, true, true, true, true, true, true, true, true, true, true, true, true, true, false] [0, 1, 2, 3, 4, 5, 6, 7, 8, 9, 10, 11, 12, 13, 18, 23]
 ·intro K1_7
  apply AWA.cutS #[true, true, true, true, true, true, true, true, true, true, true, true, true, true, true, true, true, true, true, true, true, true, false, false, true, false] [0, 1, 2, 3, 4, 5, 6, 7, 8, 9, 10, 11, 12, 13, 18, 20, 21]
  ·intro K1_6
   apply AWA.cutS #[true, true, true, true, true, true, true, true, true, true, true, true, true, true, true, true, true, true, true, false, true, true, false, false, true, false] [0, 1, 2, 3, 4, 5, 6, 7, 8, 9, 10, 11, 12, 13, 18, 20, 21]
   ·intro K1_5
    apply AWA.cutS #[true, true, true, true, true, true, true, true, true, true, true, true, true, true, true, true, true, true, true, true, true, true, false, false, false, false] [0, 1, 2, 3, 4, 5, 6, 7, 8, 9, 10, 11, 12, 13, 18, 20, 21]
    ·intro K1_4
     apply AWA.cutS #[true, true, true, true, true, true, true, true, true, true, true, true, true, true, true, true, true, false, false, true, true, true, false, false, true, false] [0, 1, 2, 3, 4, 5, 6, 7, 8, 9, 10, 11, 12, 13, 15, 16, 20, 21]
     ·intro K1_3
      apply AWA.cutS #[true, true, true, true, true, true, true, true, true, true, true, true, true, true, false, true, true, false, false, true, true, true, false, false, true, false] [0, 1, 2, 3, 4, 5, 6, 7, 8, 9, 10, 11, 12, 13, 15, 16, 20, 21]
      ·intro K1_2
       apply AWA.cutS #[true, true, true, true, true, true, true, true, true, true, true, true, true, true, true, true, true, false, false, false, true, true, false, false, true, false] [0, 1, 2, 3, 4, 5, 6, 7, 8, 9, 10, 11, 12, 13, 15, 16, 20, 21]
       ·intro K1_1
        apply AWA.cutS #[true, true, true, true, true, true, true, true, true, true, true, true, true, true, true, true, true, false, false, true, true, true, false, false, false, false] [0, 1, 2, 3, 4, 5, 6, 7, 8, 9, 10, 11, 12, 13, 15, 16, 20, 21]
        ·intro K1_0
         refine AWA.anyL [14, 19, 24] (by decide +kernel) rfl ⟨?_, ?_, ?_, trivial⟩
         ·refine AWA.arm 14 [0, 1, 2, 3, 4, 5, 6, 7, 8, 9, 10, 11, 12, 13, 15, 16, 20, 21] [] rfl rfl rfl (by decide +kernel) (by decide +kernel) (by decide +kernel) sS ?_
          refine go [.N,.g,.f,.g,.l,.g,.f,.N,.g,.l,.g,.f,.g,.l,.N,.g,.f,.g,.l,.g,.f,.N,.g,.l,.g,.f,.g,.l,.N,.g,.f,.g,.l,.g,.f,.N,.g,.l,.g,.f,.g,.l,.N] (k := ?_)
          refine AWA.anyL [17, 19, 24] (by decide +kernel) rfl ⟨?_, ?_, ?_, trivial⟩
          ·refine AWA.arm 17 [0, 1, 2, 3, 4, 5, 6, 7, 8, 9, 10, 11, 12, 13, 20, 21] [16, 14, 15] rfl rfl rfl (by decide +kernel) (by decide +kernel) (by decide +kernel) (by first | exact Stp.appendC rfl (by decide) (by decide) rfl rfl (by omega) | exact Stp.appendM rfl (by decide) (by decide) rfl rfl rfl (by omega)) ?_
           refine go [.N,.g,.f,.g,.l,.g,.f,.N,.g,.l,.g,.f,.g,.l,.N,.g,.f,.g,.l,.g,.f,.N,.g,.l,.g,.f,.g,.l,.N,.g,.f,.g,.l,.g,.f,.N,.g,.l,.N] (k := ?_)
           refine AWA.rep 24 (tr s.Regs) rfl (app_nil (α := Int)) ?_
           refine go [.N] (k := ?_)
           refine AWA.take 18 rfl rfl rfl (by decide +kernel) (.on rfl rfl (Qt.build rfl)) ?_
           refine AWA.anyL [19, 24] (by decide +kernel) rfl ⟨?_, ?_, trivial⟩
           ·refine AWA.arm 19 [0, 1, 2, 3, 4, 5, 6, 7, 8, 9, 10, 11, 12, 13, 18, 20, 21] [] rfl rfl rfl (by decide +kernel) (by decide +kernel) (by decide +kernel) sS ?_
            refine go [.N,.g,.f,.g,.l,.g,.f,.N,.g,.l,.g,.f,.g,.l,.N,.g,.f,.g,.l,.g,.f,.N,.g,.l,.g,.f,.g,.l,.N,.g,.f,.g,.l,.g,.u,.N,.g,.f,.g,.l,.N] (k := ?_)
            exact auR K1_4
           ·refine AWA.arm 24 [0, 1, 2, 3, 4, 5, 6, 7, 8, 9, 10, 11, 12, 13, 18, 20, 21] [] rfl rfl rfl (by decide +kernel) (by decide +kernel) (by decide +kernel) sA ?_
            refine go [.N,.g,.f,.g,.l,.g,.f,.N,.g,.l,.g,.f,.g,.l,.N,.g,.f,.g,.l,.g,.f,.N,.g,.l,.g,.f,.g,.l,.N,.g,.f,.g,.l,.g,.u,.N,.g,.f,.g,.l,.N] (k := ?_)
            exact auR K1_5
          ·refine AWA.arm 19 [0, 1, 2, 3, 4, 5, 6, 7, 8, 9, 10, 11, 12, 13, 15, 16, 20, 21] [] rfl rfl rfl (by decide +kernel) (by decide +kernel) (by decide +kernel) sS ?_
           refine go [.N,.g,.f,.g,.l,.g,.f,.N,.g,.l,.g,.f,.g,.l,.N,.g,.f,.g,.l,.g,.f,.N,.g,.l,.g,.f,.g,.l,.N,.g,.f,.g,.l,.g,.f,.N,.g,.l,.g,.f,.g,.l,.N] (k := ?_)
           exact auR K1_0
          ·refine AWA.arm 24 [0, 1, 2, 3, 4, 5, 6, 7, 8, 9, 10, 11, 12, 13, 15, 16, 20, 21] [] rfl rfl rfl (by decide +kernel) (by decide +kernel) (by decide +kernel) sA ?_
           refine go [.N,.g,.f,.g,.l,.g,.f,.N,.g,.l,.g,.f,.g,.l,.N,.g,.f,.g,.l,.g,.f,.N,.g,.l,.g,.f,.g,.l,.N,.g,.f,.g,.l,.g,.f,.N,.g,.l,.g,.f,.g,.l,.N] (k := ?_)
           exact auR K1_1
         ·refine AWA.arm 19 [0, 1, 2, 3, 4, 5, 6, 7, 8, 9, 10, 11, 12, 13, 15, 16, 20, 21] [] rfl rfl rfl (by decide +kernel) (by decide +kernel) (by decide +kernel) sS ?_
          refine go [.N,.g,.f,.g,.l,.g,.f,.N,.g,.l,.g,.f,.g,.l,.N,.g,.f,.g,.l,.g,.f,.N,.g,.l,.g,.f,.g,.l,.N,.g,.f,.g,.l,.g,.f,.N,.g,.l,.g,.f,.g,.l,.N] (k := ?_)
          refine AWA.anyL [14, 24] (by decide +kernel) rfl ⟨?_, ?_, trivial⟩
          ·refine AWA.arm 14 [0, 1, 2, 3, 4, 5, 6, 7, 8, 9, 10, 11, 12, 13, 15, 16, 20, 21] [] rfl rfl rfl (by decide +kernel) (by decide +kernel) (by decide +kernel) sS ?_
           refine go [.N,.g,.f,.g,.l,.g,.f,.N,.g,.l,.g,.f,.g,.l,.N,.g,.f,.g,.l,.g,.f,.N,.g,.l,.g,.f,.g,.l,.N,.g,.f,.g,.l,.g,.f,.N,.g,.l,.g,.f,.g,.l,.N] (k := ?_)
           exact auP K1_0
          ·refine AWA.arm 24 [0, 1, 2, 3, 4, 5, 6, 7, 8, 9, 10, 11, 12, 13, 15, 16, 20, 21] [] rfl rfl rfl (by decide +kernel) (by decide +kernel) (by decide +kernel) sA ?_
           refine go [.N,.g,.f,.g,.l,.g,.f,.N,.g,.l,.g,.f,.g,.l,.N,.g,.f,.g,.l,.g,.f,.N,.g,.l,.g,.f,.g,.l,.N,.g,.f,.g,.l,.g,.f,.N,.g,.l,.g,.f,.g,.l,.N] (k := ?_)
           exact auR K1_2
         ·refine AWA.arm 24 [0, 1, 2, 3, 4, 5, 6, 7, 8, 9, 10, 11, 12, 13, 15, 16, 20, 21] [] rfl rfl rfl (by decide +kernel) (by decide +kernel) (by decide +kernel) sA ?_
          refine go [.N,.g,.f,.g,.l,.g,.f,.N,.g,.l,.g,.f,.g,.l,.N,.g,.f,.g,.l,.g,.f,.N,.g,.l,.g,.f,.g,.l,.N,.g,.f,.g,.l,.g,.f,.N,.g,.l,.g,.f,.g,.l,.N] (k := ?_)
          refine AWA.anyL [14, 19] (by decide +kernel) rfl ⟨?_, ?_, trivial⟩
          ·refine AWA.arm 14 [0, 1, 2, 3, 4, 5, 6, 7, 8, 9, 10, 11, 12, 13, 15, 16, 20, 21] [] rfl rfl rfl (by decide +kernel) (by decide +kernel) (by decide +kernel) sS ?_
           refine go [.N,.g,.f,.g,.l,.g,.f,.N,.g,.l,.g,.f,.g,.l,.N,.g,.f,.g,.l,.g,.f,.N,.g,.l,.g,.f,.g,.l,.N,.g,.f,.g,.l,.g,.f,.N,.g,.l,.g,.f,.g,.l,.N] (k := ?_)
           exact auP K1_1
          ·refine AWA.arm 19 [0, 1, 2, 3, 4, 5, 6, 7, 8, 9, 10, 11, 12, 13, 15, 16, 20, 21] [] rfl rfl rfl (by decide +kernel) (by decide +kernel) (by decide +kernel) sS ?_
           refine go [.N,.g,.f,.g,.l,.g,.f,.N,.g,.l,.g,.f,.g,.l,.N,.g,.f,.g,.l,.g,.f,.N,.g,.l,.g,.f,.g,.l,.N,.g,.f,.g,.l,.g,.f,.N,.g,.l,.g,.f,.g,.l,.N] (k := ?_)
           exact auP K1_2
        ·refine AWA.anyL [17, 24] (by decide +kernel) rfl ⟨?_, ?_, trivial⟩
         ·refine AWA.arm 17 [0, 1, 2, 3, 4, 5, 6, 7, 8, 9, 10, 11, 12, 13, 20, 21] [16, 14, 15] rfl rfl rfl (by decide +kernel) (by decide +kernel) (by decide +kernel) (by first | exact Stp.appendC rfl (by decide) (by decide) rfl rfl (by omega) | exact Stp.appendM rfl (by decide) (by decide) rfl rfl rfl (by omega)) ?_
          refine go [.N,.g,.f,.g,.l,.g,.f,.N,.g,.l,.g,.f,.g,.l,.N,.g,.f,.g,.l,.g,.f,.N,.g,.l,.g,.f,.g,.l,.N,.g,.f,.g,.l,.g,.f,.N,.g,.l,.N] (k := ?_)
          refine AWA.rep 24 (tr s.Regs) rfl (app_nil (α := Int)) ?_
          refine go [.N] (k := ?_)
          refine AWA.take 18 rfl rfl rfl (by decide +kernel) (.on rfl rfl (Qt.build rfl)) ?_
          refine go [.N] (k := ?_)
          exact auP K1_4
         ·refine AWA.arm 24 [0, 1, 2, 3, 4, 5, 6, 7, 8, 9, 10, 11, 12, 13, 15, 16, 20, 21] [] rfl rfl rfl (by decide +kernel) (by decide +kernel) (by decide +kernel) sA ?_
          refine go [.N,.g,.f,.g,.l,.g,.f,.N,.g,.l,.g,.f,.g,.l,.N,.g,.f,.g,.l,.g,.f,.N,.g,.l,.g,.f,.g,.l,.N,.g,.f,.g,.l,.g,.f,.N,.g,.l,.g,.f,.g,.l,.N] (k := ?_)
          exact auR K1_3
       ·refine AWA.anyL [17, 19] (by decide +kernel) rfl ⟨?_, ?_, trivial⟩
        ·refine AWA.arm 17 [0, 1, 2, 3, 4, 5, 6, 7, 8, 9, 10, 11, 12, 13, 20, 21] [16, 14, 15] rfl rfl rfl (by decide +kernel) (by decide +kernel) (by decide +kernel) (by first | exact Stp.appendC rfl (by decide) (by decide) rfl rfl (by omega) | exact Stp.appendM rfl (by decide) (by decide) rfl rfl rfl (by omega)) ?_
         refine go [.N,.g,.f,.g,.l,.g,.f,.N,.g,.l,.g,.f,.g,.l,.N,.g,.f,.g,.l,.g,.f,.N,.g,.l,.g,.f,.g,.l,.N,.g,.f,.g,.l,.g,.f,.N,.g,.l,.N] (k := ?_)
         refine AWA.rep 24 (tr s.Regs) rfl (app_nil (α := Int)) ?_
         refine go [.N] (k := ?_)
         refine AWA.take 18 rfl rfl rfl (by decide +kernel) (.on rfl rfl (Qt.build rfl)) ?_
         refine go [.N] (k := ?_)
         exact auP K1_5
        ·refine AWA.arm 19 [0, 1, 2, 3, 4, 5, 6, 7, 8, 9, 10, 11, 12, 13, 15, 16, 20, 21] [] rfl rfl rfl (by decide +kernel) (by decide +kernel) (by decide +kernel) sS ?_
         refine go [.N,.g,.f,.g,.l,.g,.f,.N,.g,.l,.g,.f,.g,.l,.N,.g,.f,.g,.l,.g,.f,.N,.g,.l,.g,.f,.g,.l,.N,.g,.f,.g,.l,.g,.f,.N,.g,.l,.g,.f,.g,.l,.N] (k := ?_)
         exact auP K1_3
      ·refine AWA.one 14 [0, 1, 2, 3, 4, 5, 6, 7, 8, 9, 10, 11, 12, 13, 15, 16, 20, 21] [] (by decide +kernel) rfl rfl rfl (by decide +kernel) (by decide +kernel) (by decide +kernel) sS ?_
       refine go [.N,.g,.f,.g,.l,.g,.f,.N,.g,.l,.g,.f,.g,.l,.N,.g,.f,.g,.l,.g,.f,.N,.g,.l,.g,.f,.g,.l,.N,.g,.f,.g,.l,.g,.f,.N,.g,.l,.g,.f,.g,.l,.N] (k := ?_)
       exact auP K1_3
     ·refine AWA.one 17 [0, 1, 2, 3, 4, 5, 6, 7, 8, 9, 10, 11, 12, 13, 20, 21] [16, 14, 15] (by decide +kernel) rfl rfl rfl (by decide +kernel) (by decide +kernel) (by decide +kernel) (by first | exact Stp.appendC rfl (by decide) (by decide) rfl rfl (by omega) | exact Stp.appendM rfl (by decide) (by decide) rfl rfl rfl (by omega)) ?_
      refine go [.N,.g,.f,.g,.l,.g,.f,.N,.g,.l,.g,.f,.g,.l,.N,.g,.f,.g,.l,.g,.f,.N,.g,.l,.g,.f,.g,.l,.N,.g,.f,.g,.l,.g,.f,.N,.g,.l,.N] (k := ?_)
      refine AWA.rep 24 (tr s.Regs) rfl (app_nil (α := Int)) ?_
      refine go [.N] (k := ?_)
      refine AWA.take 18 rfl rfl rfl (by decide +kernel) (.on rfl rfl (Qt.build rfl)) ?_
      refine go [.N] (k := ?_)
      exact auR K1_6
    ·refine AWA.anyL [22, 24] (by decide +kernel) rfl ⟨?_, ?_, trivial⟩
     ·refine AWA.arm 22 [0, 1, 2, 3, 4, 5, 6, 7, 8, 9, 10, 11, 12, 13, 18] [21, 19, 17, 20, 16, 14, 15] rfl rfl rfl (by decide +kernel) (by decide +kernel) (by decide +kernel) (by first | exact Stp.appendC rfl (by decide) (by decide) rfl rfl (by omega) | exact Stp.appendM rfl (by decide) (by decide) rfl rfl rfl (by omega)) ?_
      refine go [.N,.g,.f,.g,.l,.g,.f,.N,.g,.l,.g,.f,.g,.l,.N,.g,.f,.g,.l,.g,.f,.N,.g,.l,.g,.f,.g,.l,.N,.g,.f,.g,.l,.g,.u,.N] (k := ?_)
      refine AWA.rep 29 (tr s.Fds) rfl (app_nil (α := Int)) ?_
      refine go [.N] (k := ?_)
      refine AWA.take 23 rfl rfl rfl (by decide +kernel) (.on rfl rfl (Qt.build rfl)) ?_
      refine AWA.one 24 [0, 1, 2, 3, 4, 5, 6, 7, 8, 9, 10, 11, 12, 13, 18, 23] [] (by decide +kernel) rfl rfl rfl (by decide +kernel) (by decide +kernel) (by decide +kernel) sA ?_
      refine go [.N,.g,.f,.g,.l,.g,.f,.N,.g,.l,.g,.f,.g,.l,.N,.g,.f,.g,.l,.g,.f,.N,.g,.l,.g,.f,.g,.l,.N,.g,.f,.g,.l,.g,.u,.N,.g,.u,.N] (k := ?_)
      exact auR K1_7
     ·refine AWA.arm 24 [0, 1, 2, 3, 4, 5, 6, 7, 8, 9, 10, 11, 12, 13, 18, 20, 21] [] rfl rfl rfl (by decide +kernel) (by decide +kernel) (by decide +kernel) sA ?_
      refine go [.N,.g,.f,.g,.l,.g,.f,.N,.g,.l,.g,.f,.g,.l,.N,.g,.f,.g,.l,.g,.f,.N,.g,.l,.g,.f,.g,.l,.N,.g,.f,.g,.l,.g,.u,.N,.g,.f,.g,.l,.N] (k := ?_)
      exact auP K1_6
   ·refine AWA.one 19 [0, 1, 2, 3, 4, 5, 6, 7, 8, 9, 10, 11, 12, 13, 18, 20, 21] [] (by decide +kernel) rfl rfl rfl (by decide +kernel) (by decide +kernel) (by decide +kernel) sS ?_
    refine go [.N,.g,.f,.g,.l,.g,.f,.N,.g,.l,.g,.f,.g,.l,.N,.g,.f,.g,.l,.g,.f,.N,.g,.l,.g,.f,.g,.l,.N,.g,.f,.g,.l,.g,.u,.N,.g,.f,.g,.l,.N] (k := ?_)
    exact auP K1_6
  ·refine AWA.one 22 [0, 1, 2, 3, 4, 5, 6, 7, 8, 9, 10, 11, 12, 13, 18] [21, 19, 17, 20, 16, 14, 15] (by decide +kernel) rfl rfl rfl (by decide +kernel) (by decide +kernel) (by decide +kernel) (by first | exact Stp.appendC rfl (by decide) (by decide) rfl rfl (by omega) | exact Stp.appendM rfl (by decide) (by decide) rfl rfl rfl (by omega)) ?_
   refine go [.N,.g,.f,.g,.l,.g,.f,.N,.g,.l,.g,.f,.g,.l,.N,.g,.f,.g,.l,.g,.f,.N,.g,.l,.g,.f,.g,.l,.N,.g,.f,.g,.l,.g,.u,.N] (k := ?_)
   refine AWA.rep 29 (tr s.Fds) rfl (app_nil (α := Int)) ?_
   refine go [.N] (k := ?_)
   refine AWA.take 23 rfl rfl rfl (by decide +kernel) (.on rfl rfl (Qt.build rfl)) ?_
   refine go [.N] (k := ?_)
   exact auP K1_7
 ·refine AWA.one 25 [] [24, 23, 22, 21, 20, 19, 18, 17, 16, 15, 14, 13, 12, 11, 10, 9, 8, 7, 6, 5, 4, 3, 2, 1, 0] (by decide +kernel) rfl rfl rfl (by decide +kernel) (by decide +kernel) (by decide +kernel) (by first | exact Stp.storeA rfl rfl rfl rfl (by decide) rfl | exact Stp.store rfl rfl (by simp) rfl rfl rfl (by decide) rfl) ?_
  refine go [.N,.Z,.R2,.a,.Z] (k := ?_)
  refine AW.block ?_
  refine AW.weak (Weak.hoist 5 6 56 rfl (by decide) rfl rfl rfl) ?_
  refine AW.weak (L' := (.sl 6 (.v (iv (0 : Nat))) :: .sl 4 (.p 4 [] 10 0 0) :: .sl 5 (.p 5 [] 10 0 0) :: .rt 2 .box (T.s 14 1 fun k c => ([(T.v (iv a.Next), none), (T.v (iv a.Tick), none), (T.j, none), (T.j, none), (T.j, none), (T.j, none), (T.j, none), (T.j, none), (T.j, none), (T.v (Value.bool a.Ready.Used), none), (T.j, none), (T.v (iv a.Ready.Head), none), (T.v (iv a.Ready.Len), none), (T.j, none)].getD (k * 14 + c) (T.j, none)).fst) :: .al 2 2 (.h base []) :: .al 2 3 (.h (base + 1) []) :: .al 2 4 (.h (base + 2) []) :: .al 2 5 (.h (base + 3) []) :: .al 2 6 (.h (base + 4) []) :: .al 2 7 (.h (base + 5) []) :: .al 2 8 (.h (base + 6) []) :: .al 2 10 (.h (base + 7) []) :: .al 2 13 (.h (base + 8) []) :: .rt base .ro (tr a.Progs) :: .rt (base + 1) .ro (tr a.Slots) :: .rt (base + 2) .ro (tr a.Ram) :: .rt (base + 3) .ro (tr a.Map) :: .rt (base + 4) .ro (tr a.Opens) :: .rt (base + 5) .ro (tr a.Pipes) :: .rt (base + 6) .ro (tr a.Files) :: .rt (base + 7) .ro (tr a.Ready.Buf) :: .rt (base + 8) .ro (tr a.Out) :: .sl 2 (.p 2 [] 14 0 0) :: .rt 3 .box (T.s 11 1 fun k c => ([(T.v (Value.bool s.Used), none), (T.v (iv s.Pid), none), (T.v (iv s.Parent), none), (T.v (iv s.State), none), (T.v (iv s.Prog), none), (T.v (iv s.Pc), none), (T.v (iv s.Until), none), (T.v (iv s.Code), none), (T.j, none), (T.j, none), (T.j, none)].getD (k * 11 + c) (T.j, none)).fst) :: .al 3 8 (.h (base + 9) []) :: .al 3 9 (.h (base + 10) []) :: .al 3 10 (.h (base + 11) []) :: .rt (base + 9) .ro (tr s.Regs) :: .rt (base + 10) .ro (tr s.Pt) :: .rt (base + 11) .ro (tr s.Fds) :: .sl 3 (.p 3 [] 11 0 0) :: .rt 4 .box (T.s 10 1 fun _ c => [T.v (iv 0), T.v (iv 0), T.v (iv 0), T.v (iv 0), T.v (iv 0), T.s 1 0 fun _ _ => T.j, T.s 1 0 fun _ _ => T.j, T.s 1 0 fun _ _ => T.j, T.v (iv 0), T.v (iv 0)].getD c T.j) :: .rt 5 .box (T.s 10 1 fun _ c => [T.v (iv s.Pid), T.v (iv s.Parent), T.v (iv s.State), T.v (iv s.Prog), T.v (iv s.Pc), T.j, T.j, T.j, T.v (iv s.Until), T.v (iv s.Code)].getD c T.j) :: .al 5 5 (.h 24 []) :: .al 5 6 (.h 56 []) :: .al 5 7 (.h 29 []) :: .rt 24 .row (tr s.Regs) :: .rt 56 .row (tr (memK a.Ram s.Pt (0 : Nat))) :: .rt 29 .row (tr s.Fds) :: [])) (Weak.sim ⟨rfl, rfl, rfl, Rf rfl, ⟨rfl, rfl⟩, ⟨rfl, rfl⟩, ⟨rfl, rfl⟩, ⟨rfl, rfl⟩, ⟨rfl, rfl⟩, ⟨rfl, rfl⟩, ⟨rfl, rfl⟩, ⟨rfl, rfl⟩, ⟨rfl, rfl⟩, Rf rfl, Rf rfl, Rf rfl, Rf rfl, Rf rfl, Rf rfl, Rf rfl, Rf rfl, Rf rfl, rfl, Rf rfl, ⟨rfl, rfl⟩, ⟨rfl, rfl⟩, ⟨rfl, rfl⟩, Rf rfl, Rf rfl, Rf rfl, rfl, ⟨_, rfl, (sc_sim (n := 10) (fun c hc => match c, hc with | 0, _ => tsr | 1, _ => tsr | 2, _ => tsr | 3, _ => tsr | 4, _ => tsr | 5, _ => tsr | 6, _ => tsr | 7, _ => tsr | 8, _ => tsr | 9, _ => tsr | c + 10, hc => absurd hc (by omega)))⟩, ⟨_, rfl, (sc_sim (n := 10) (fun c hc => match c, hc with | 0, _ => tsr | 1, _ => tsr | 2, _ => tsr | 3, _ => tsr | 4, _ => tsr | 5, _ => tsr | 6, _ => tsr | 7, _ => tsr | 8, _ => tsr | 9, _ => tsr | c + 10, hc => absurd hc (by omega)))⟩, ⟨rfl, rfl⟩, ⟨rfl, rfl⟩, ⟨rfl, rfl⟩, Rf rfl, ⟨_, rfl, sim_nil⟩, Rf rfl, trivial⟩ rfl rfl) ?_
  refine AW.loop (fun i : KInv (pagesN s.Pt) => (.sl 6 (.v (iv i.k)) :: .sl 4 (.p 4 [] 10 0 0) :: .sl 5 (.p 5 [] 10 0 0) :: .rt 2 .box (T.s 14 1 fun k c => ([(T.v (iv a.Next), none), (T.v (iv a.Tick), none), (T.j, none), (T.j, none), (T.j, none), (T.j, none), (T.j, none), (T.j, none), (T.j, none), (T.v (Value.bool a.Ready.Used), none), (T.j, none), (T.v (iv a.Ready.Head), none), (T.v (iv a.Ready.Len), none), (T.j, none)].getD (k * 14 + c) (T.j, none)).fst) :: .al 2 2 (.h base []) :: .al 2 3 (.h (base + 1) []) :: .al 2 4 (.h (base + 2) []) :: .al 2 5 (.h (base + 3) []) :: .al 2 6 (.h (base + 4) []) :: .al 2 7 (.h (base + 5) []) :: .al 2 8 (.h (base + 6) []) :: .al 2 10 (.h (base + 7) []) :: .al 2 13 (.h (base + 8) []) :: .rt base .ro (tr a.Progs) :: .rt (base + 1) .ro (tr a.Slots) :: .rt (base + 2) .ro (tr a.Ram) :: .rt (base + 3) .ro (tr a.Map) :: .rt (base + 4) .ro (tr a.Opens) :: .rt (base + 5) .ro (tr a.Pipes) :: .rt (base + 6) .ro (tr a.Files) :: .rt (base + 7) .ro (tr a.Ready.Buf) :: .rt (base + 8) .ro (tr a.Out) :: .sl 2 (.p 2 [] 14 0 0) :: .rt 3 .box (T.s 11 1 fun k c => ([(T.v (Value.bool s.Used), none), (T.v (iv s.Pid), none), (T.v (iv s.Parent), none), (T.v (iv s.State), none), (T.v (iv s.Prog), none), (T.v (iv s.Pc), none), (T.v (iv s.Until), none), (T.v (iv s.Code), none), (T.j, none), (T.j, none), (T.j, none)].getD (k * 11 + c) (T.j, none)).fst) :: .al 3 8 (.h (base + 9) []) :: .al 3 9 (.h (base + 10) []) :: .al 3 10 (.h (base + 11) []) :: .rt (base + 9) .ro (tr s.Regs) :: .rt (base + 10) .ro (tr s.Pt) :: .rt (base + 11) .ro (tr s.Fds) :: .sl 3 (.p 3 [] 11 0 0) :: .rt 4 .box (T.s 10 1 fun _ c => [T.v (iv 0), T.v (iv 0), T.v (iv 0), T.v (iv 0), T.v (iv 0), T.s 1 0 fun _ _ => T.j, T.s 1 0 fun _ _ => T.j, T.s 1 0 fun _ _ => T.j, T.v (iv 0), T.v (iv 0)].getD c T.j) :: .rt 5 .box (T.s 10 1 fun _ c => [T.v (iv s.Pid), T.v (iv s.Parent), T.v (iv s.State), T.v (iv s.Prog), T.v (iv s.Pc), T.j, T.j, T.j, T.v (iv s.Until), T.v (iv s.Code)].getD c T.j) :: .al 5 5 (.h 24 []) :: .al 5 6 (.h 56 []) :: .al 5 7 (.h 29 []) :: .rt 24 .row (tr s.Regs) :: .rt 56 .row (tr (memK a.Ram s.Pt i.k)) :: .rt 29 .row (tr s.Fds) :: [])) (fun i => pagesN s.Pt - i.k) ⟨0, Nat.zero_le _⟩ ?_
  intro i
  have hle := i.le
  have hml := memK_len a.Ram s.Pt i.k (by omega)
  refine go [.R2,.m,.N,.f,.l] (k := ?_)
  refine cv Tryz.call82 rfl rfl (l12Pages_con s.Pt hp) ?_
  refine go [.N,.b,.Z] (k := ?_)
  refine cd (fun c1 => ?_) fun c1 => ?_
  ·try simp only [cnd] at c1
   have hfi := pages_bd (l := s.Pt) (k := i.k) (by omega)
   have hfw := frW_len a.Ram (s.Pt.getD i.k En.dflt)
   refine jd (AW.seq (AW.block ?_))
   refine go [.D [0, 1, 2, 3, 4, 5, 6, 7, 8, 9, 10, 11, 12, 13, 14, 15, 16, 17, 19],.t 0,.f,.t 1,.l,.N,.t 2,.f,.t 3,.l,.t 4,.f,.N,.t 5,.l,.t 6,.m,.t 7,.i,.N,.t 8,.l] (k := ?_)
   refine tk 9 rfl (Qt.binOp rfl rfl (by first | exact pbMul (by omega) | rfl)) ?_
   refine go [.t 10,.f,.N,.t 11,.l,.t 12,.m,.t 13,.i,.N,.t 14,.l,.t 15,.b] (k := ?_)
   refine tk 16 rfl (Qt.binOp rfl rfl (by first | exact pbMul (by omega) | rfl)) ?_
   refine go [.N] (k := ?_)
   refine tk 17 rfl (Qt.sliceH rfl rfl rfl sl24 sz3 (by decide) (slB_sn rfl (by omega)) (slB_sn rfl (by omega)) (by omega) (by omega)) ?_
   refine a1 18 [] [17, 1, 16, 9, 3, 0, 15, 8, 2, 14, 7, 13, 6, 5, 12, 11, 4, 10] rfl rfl (by first | exact Stp.appendC rfl (by decide) (by decide) rfl rfl (by omega) | exact Stp.appendM rfl (by decide) (by decide) rfl rfl rfl (by omega)) ?_
   refine go [.N,.t 19,.f,.O 20 [] [19, 18, 17, 16, 15, 14, 13, 12, 11, 10, 9, 8, 7, 6, 5, 4, 3, 2, 1, 0],.s,.N,.Z,.R1,.m,.b,.a,.Z] (k := ?_)
   refine ⟨⟨i.k + 1, by omega⟩, Weak.sim ⟨st1, rfl, rfl, Rf rfl, ⟨rfl, rfl⟩, ⟨rfl, rfl⟩, ⟨rfl, rfl⟩, ⟨rfl, rfl⟩, ⟨rfl, rfl⟩, ⟨rfl, rfl⟩, ⟨rfl, rfl⟩, ⟨rfl, rfl⟩, ⟨rfl, rfl⟩, Rf rfl, Rf rfl, Rf rfl, Rf rfl, Rf rfl, Rf rfl, Rf rfl, Rf rfl, Rf rfl, rfl, Rf rfl, ⟨rfl, rfl⟩, ⟨rfl, rfl⟩, ⟨rfl, rfl⟩, Rf rfl, Rf rfl, Rf rfl, rfl, Rf rfl, ⟨_, rfl, (sc_sim (n := 10) (fun c hc => match c, hc with | 0, _ => tsr | 1, _ => tsr | 2, _ => tsr | 3, _ => tsr | 4, _ => tsr | 5, _ => tsr | 6, _ => tsr | 7, _ => tsr | 8, _ => tsr | 9, _ => tsr | c + 10, hc => absurd hc (by omega)))⟩, ⟨rfl, rfl⟩, ⟨rfl, rfl⟩, ⟨rfl, rfl⟩, Rf rfl, ⟨_, rfl, (by rw [memK_next (by omega)]; exact app_frW hr hfi.1 hfi.2)⟩, Rf rfl, trivial⟩ rfl rfl, ?_⟩
   show pagesN s.Pt - (i.k + 1) < pagesN s.Pt - i.k
   omega
  try simp only [cnd] at c1
  refine AW.exit ?_
  dsimp only [thenQ, blockQ, reduceIte]
  refine go [.R,.G,.N,.s,.Z] (k := ?_)
  refine AW.rep 56 (tr (memK a.Ram s.Pt (pagesN s.Pt))) rfl (by rw [show i.k = pagesN s.Pt by omega]; exact tsr) ?_
  refine AW.ret (endQ_ret (.cons (.cellG 4 92 rfl rfl rfl ag92 sz92 (by decide)) .nil) ?_)
  refine ⟨fun i => if i = 0 then 24 else if i = 1 then 56 else 29, rfl, nodup_of rfl, ?_⟩
  intro r hr
  simp only [List.mem_cons, List.not_mem_nil, or_false] at hr
  rcases hr with rfl | rfl | rfl <;> exact ⟨by simp, rootL_mem rfl⟩
end Go.Proofs.YtldefnpobjabpaaGreat.VM

